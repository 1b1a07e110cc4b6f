/- VmDraw3, VmFrz, VmMix, VmDraw4, VmGuard, VmCode, VmFun, VmOwnFun, VmStFun, VmTab, VmNew, VmUse, VmOpen, VmRow, VmLib, VmSz, VmTo, VmEq. -/
import Derived.Test.YtncejbehidimmaaGreatDoorVmDraw2
import Derived.Deep.LoopGhost
import Derived.Test.YtncejbehidimmaaGreatDoorChecked
import Derived.Test.YtncejbehidimmaaGreatDoorRows
import Derived.WalkKit
import Derived.ProofKit
import Derived.OpenShut
import Derived.JoinedCond
import Derived.Carry
import Derived.ChangeSame
import Derived.Shelf.Vars
set_option linter.all false
set_option maxHeartbeats 4000000
set_option maxRecDepth 100000
namespace Go.Proofs.YtncejbehidimmaaGreatDoor
def b0q:=@List.any_eq_false
def a8V:=@Array.getElem?_eq_some_iff
def b1P:=@Ne.symm
def a9T:=@List.eq_nil_iff_forall_not_mem
def a8S:=@Array.size_setIfInBounds
def b0m:=@of_decide_eq_false
def b0a:=@Nat.testBit_two_pow_sub_one
def b0A:=@Classical.not_forall
def b0r:=@Classical.not_imp
def a9g:=@List.mem_append_left
def b1G:=@List.map_congr_left
def b0c:=@List.not_mem_nil
def b1x:=@or_false
def b1b:=@forall_eq_or_imp
def a8P:=@Array.getElem?_eq_none
def a7V:=@Bool.not_eq_true'
def a7C:=@decide_eq_false_iff_not
def a9s:=@List.mem_filterMap
def b0I:=@List.foldl_nil
def b0T:=@Nat.blt_eq
def b0Q:=@Bool.eq_false_iff
def b0j:=@ne_eq
def b1c:=@List.filter_cons
def a8E:=@List.mem_filter
def a9b:=@List.mem_of_mem_erase
def b1y:=@List.perm_cons_erase
def b0d:=@List.Sublist.map
def b0J:=@List.erase_sublist
def a9J:=@List.mem_erase_of_ne
def b1d:=@List.any_eq_true
def b1e:=@List.perm_middle
def a8s:=@Bool.not_false
def b0u:=@Bool.true_and
def b1H:=@List.filter_sublist
def b1z:=@Bool.or_eq_false_iff
def a8x:=@Bool.not_true
def b1D:=@Bool.false_or
def b0U:=@Go.wp_mono
def b1t:=@Array.getElem?_toList
def b1R:=@Go.calls_of_wp
def a9t:=@Array.mapM_eq_mapM_toList
def b1p:=@Go.Sem.run_map
def a9x:=@Bool.and_eq_true_iff
def a8a:=@Nat.not_lt_zero
def a7M:=@Nat.lt_succ_self
def a8e:=@Bool.not_eq_false'
theorem Az{l:List Oper}{D:Nat->Prop}(hD:∀ (k:Nat),D k->∀ (o:Oper),l[k]?=some o->∀ e∈o.after.toList,Region.binds .any e=true->D e.on):∀ (i:Nat) (o:Oper),l[i]?=some o->(∀ e∈o.after.toList,Region.binds .any e=true->D e.on) ->
  ∀ k,Nat.testBit ((bG l []).getD i 0) k=true->D k:=by
 obtain⟨r,h1,h2,h3⟩:=um l [];rw[h1];simp only[List.nil_append,List.length_nil,Nat.zero_add] at h3 ⊢;intro i;induction i using Nat.strongRecOn with
 | _ i ih =>
  intro o ho a5I k hk;obtain⟨e,he,hb,h⟩:=h3 i o ho k hk;have YT:=a5I e he hb;rcases h with rfl|⟨bp,h⟩
  .exact YT
  .have W1:i<l.length:=(a7R.1 ho).1;have hp:l[e.on]?=some (l[e.on]'(by omega)):=a7L (by omega);exact ih e.on bp _ hp (λ e' xf cv=>hD e.on YT _ hp e' xf cv) k h
theorem bL{l:List Oper}(h:backward l=true):∀ (i:Nat) (o:Oper),l[i]?=some o->∀ e∈o.after.toList,Region.binds .any e=true->e.on<i:=by
 intro i o ho e he hb;unfold backward at h;rw[List.all_eq_true] at h;have hi:i<l.length:=(List.getElem?_eq_some_iff.1 ho).1;have:=h i (by simpa using hi);rw[ho] at this;simp only[List.all_eq_true] at this;have:=this e he;rw[hb] at this;simpa [Nat.blt_eq] using this
theorem AU:∀ {ds:List (Option Nat)},distinct ds=true->(∀ d∈ds,∃ t,d=some t)/\∀ (j k t:Nat),ds[j]?=some (some t)->ds[k]?=some (some t)->j=k
 | [],_=>⟨by simp,by simp⟩
 | none::_,h=>by cases h
 | some d::r,h=>by
  simp only[distinct] at h;split at h
  .cases h
  .rename_i Sm;obtain⟨h1,h2⟩:=AU h;have gZ:∀ x∈r,x≠some d:=by
    intro x hx e;subst e;rw[b0q] at Sm;have:=Sm _ hx;simp at this
   refine⟨λ x hx=>?_,λ j k t hj hk=>?_⟩
   .rcases a7J.1 hx with rfl|hx
    .exact⟨d,rfl⟩
    .exact h1 x hx
   .cases j with
    | zero =>
     simp at hj;subst hj;cases k with
     | zero=>rfl
     | succ k=>exact absurd rfl (gZ _ (List.mem_of_getElem? (by simpa using hk)))
    | succ j =>
     cases k with
     | zero =>
      simp at hk;subst hk;exact absurd rfl (gZ _ (List.mem_of_getElem? (by simpa using hj)))
     | succ k=>rw[h2 j k t (by simpa using hj) (by simpa using hk)]
theorem mem_ready{ops:Array Oper}{listed:Array Bool}{i:Nat}(hs:listed.size=ops.size):i∈Region.ready .any ops listed↔∃ o,ops[i]?=some o/\listed.getD i false=false/\∀ e∈o.after.toList,Region.binds .any e=true->listed.getD e.on false=true:=by
 unfold Region.ready;simp only[List.mem_filter,List.mem_range,Bool.and_eq_true,Bool.not_eq_true'];constructor
 .rintro⟨hi,h1,h2⟩;have ho:ops[i]?=some ops[i]:=a8u hi;rw[ho] at h2;simp only[a9R,a9M] at h2;refine⟨_,ho,?_,λ e he hb=>?_⟩
  .have:i<listed.size:=by omega
   simpa [Array.getD_eq_getD_getElem?,this] using h1
  .rw[Array.all_eq_true_iff_forall_mem] at h2;have:=h2 e (by simpa using he);simpa [hb] using this
 .rintro⟨o,ho,h1,h2⟩;have hi:i<ops.size:=(a8V.1 ho).1;refine⟨hi,?_,?_⟩
  .have:i<listed.size:=by omega
   simpa [Array.getD_eq_getD_getElem?,this] using h1
  .rw[ho];simp only[a9R,a9M];rw[Array.all_eq_true_iff_forall_mem];intro e he;cases hb:Region.binds .any e with
   | false=>simp
   | true=>simp[h2 e (by simpa using he) hb]
theorem pc{listed:Array Bool}{i k:Nat}(hi:i<listed.size):(listed.setIfInBounds i true).getD k false=true↔listed.getD k false=true\/k=i:=by
 rw[a8h,a8h,b0H];by_cases h:i=k
 .subst h;simp[hi]
 .simp[h,b1P h]
section
variable {c:Ctx} {G:Gh} {s:ah} {a:Act} {w w':World}
theorem Gf(hE:bo c.P c.E){ops:Array Oper}{m:Nat}(dv:backward ops.toList=true)(mX:∀ j o,m<=j->ops.toList[j]?=some o->∀ k,k<j->Nat.testBit ((bG ops.toList []).getD j 0) k=true)
  {Q:ah->Prop} {Q':Exit->Act->World->Prop} (hQ:∀ G s a w,Inv c G s a w->Q s->Q' .normal a w) :
  ∀ (fuel j:Nat) (kn:List (Nat×Bool)) (G:Gh) (s:ah) (a:Act) (w:World) (listed:Array Bool),m<=j->ops.size<=j+fuel->listed.size=ops.size->(∀ k,k<ops.size->(listed.getD k false=true↔k<j)) ->
   Inv c G s a w->eB c.E ops (ops.toList.drop j) kn Q s->wpAny c.P .any ops Q' fuel listed a w:=by
 intro fuel;induction fuel with
 | zero =>
  intro j kn G s a w listed hmj hf bW hl hI hr;have iu:ops.toList.drop j=[]:=a9A (by simp;omega);rw[iu] at hr;refine⟨?_,hQ _ _ _ _ hI hr⟩;apply a9T.2;intro i hi;obtain⟨o,ho,h1,_⟩:=(mem_ready bW).1 hi;have bp:=(a8V.1 ho).1;have:=(hl i bp).2 (by omega);rw[h1] at this;cases this
 | succ fuel ih =>
  intro j kn G s a w listed hmj hf bW hl hI hr;by_cases hj:j<ops.size
  .have ho:ops[j]?=some ops[j]:=a8u hj;have a3v:ops.toList.drop j=ops[j]::ops.toList.drop (j+1):=by
    rw[List.drop_eq_getElem_cons (by simpa using hj)];simp
   rw[a3v] at hr;constructor
   .intro iu;have:j∈Region.ready .any ops listed:=(mem_ready bW).2 ⟨_,ho,by
     cases hb:listed.getD j false with
     | false=>rfl
     | true=>have:=(hl j hj).1 hb;omega,λ e he hb=>by
     have:=bL dv j ops[j] (by simp) e he hb;exact (hl e.on (by omega)).2 this⟩
    rw[iu] at this;cases this
   .intro i hi;obtain⟨o,cd,h1,h2⟩:=(mem_ready bW).1 hi;have DA:=(a8V.1 cd).1;have QX:j<=i:=by
     rcases a8m i j with h|h
     .have:=(hl i DA).2 h;rw[h1] at this;cases this
     .exact h
    have qi:i=j:=by
     rcases a8m j i with h|h
     .have ff:=Az (l:=ops.toList) (D:=λ k=>k<j) (λ k hk o' cH e he hb=>by
       have:=bL dv k o' cH e he hb;omega) i o (by simpa using cd) (λ e he hb=>by
        have bp:=bL dv i o (by simpa using cd) e he hb;exact (hl e.on (by omega)).1 (h2 e he hb)) j (mX i o (by omega) (by simpa using cd) j h)
      omega
     .omega
    subst qi;have hoe:o=ops[i]:=by rw[ho] at cd;exact (a8I cd).symm
    have zd:∀ k,k<ops.size->((listed.setIfInBounds i true).getD k false=true↔k<i+1):=λ k hk=>by
     rw[pc (by omega),hl k hk];omega
    unfold wpOp;simp only[ho];have sQ:=x7 hE hI hr;split at sQ
    .rename_i hw;rw[a7E hw];exact .inl (a8X (λ a' w' ⟨G',s',mj,h1,h2⟩=>ih (i+1) mj G' s' a' w' _ (by omega) (by omega) (by rw[a8S];exact bW) zd h1 h2) (sQ Q'))
    .rename_i hw;rw[a7z hw];obtain⟨G',s',mj,h1,h2⟩:=sQ;exact ih (i+1) mj G' s' _ w _ (by omega) (by omega) (by rw[a8S];exact bW) zd h1 h2
  .have iu:ops.toList.drop j=[]:=a9A (by simp;omega);rw[iu] at hr;have eN:Region.ready .any ops listed=[]:=by
    apply a9T.2;intro i hi;obtain⟨o,ho,h1,_⟩:=(mem_ready bW).1 hi;have bp:=(a8V.1 ho).1;have:=(hl i bp).2 (by omega);rw[h1] at this;cases this
   exact⟨λ _=>hQ _ _ _ _ hI hr,λ i hi=>by rw[eN] at hi;cases hi⟩
theorem Dz{l:List Oper}{ops:Array Oper}(hl:ops.toList=l){bits:Nat}{o:Oper}{Dh:Bool}(h:Inv c G s a w)(hg:e8 l bits s o Dh):Region.wanted o (yielded ops a.tmps)=Dh:=by
 unfold e8 at hg;split at hg
 .rename_i hn;simp[Region.wanted,hn,hg]
 .rename_i g want hn;obtain⟨t,v,h1,_,h3,h4⟩:=hg;have hx:=aX h (.tmp t);rw[h3] at hx;have hs:sL ops g=some t:=by
   unfold sL;rw[<-h1];unfold bZ;rw[<-hl];simp
  unfold GV at h4;split at h4
  .have hy:=EV (s:=s) hs hx;simp[Region.wanted,hn,hy,h4]
  .have hy:=Ba (s:=s) hs hx;simp[Region.wanted,hn,hy,h4]
  .exact h4.elim
theorem TU(hE:bo c.P c.E){ops:Array Oper}{m:Nat}{es:List H0}{s0:ah}(dv:backward ops.toList=true)(hm:m<=ops.size)
  (mX:∀ j o,m<=j->ops.toList[j]?=some o->∀ k,k<j->Nat.testBit ((bG ops.toList []).getD j 0) k=true)
  (mY:∀ j k t,j<m->k<m->bZ ops.toList j=some t->bZ ops.toList k=some t->j=k)
  (YW:∀ i o,i<m->ops.toList[i]?=some o->LP c.E ops.toList m ((bG ops.toList []).getD i 0) (dz ops.toList es s0 (List.range i)) o (es.getD i ⟨false, .any,none⟩))
  (EX:∀ i o,i<m->ops.toList[i]?=some o->pE o.dst=true) (oj:∀ i o t,i<m->ops.toList[i]?=some o->sb o.op=true->o.dst=some t->s0.ag t=none)
  {Q:ah->Prop} {Q':Exit->Act->World->Prop} (hQ:∀ G s a w,Inv c G s a w->Q s->Q' .normal a w) {kn:List (Nat×Bool)} (MT:∀ G a w,Inv c G (dz ops.toList es s0 (List.range m)) a w->eB c.E ops (ops.toList.drop m) kn Q (dz ops.toList es s0 (List.range m))) :
  ∀ (fuel:Nat) (π:List Nat) (G:Gh) (a:Act) (w:World) (listed:Array Bool),ops.size=π.length+fuel->π.Nodup->(∀ k∈π,k<m)->listed.size=ops.size->(∀ k,k<ops.size->(listed.getD k false=true↔k∈π)) ->
   (∀ k∈π,∀ o,ops.toList[k]?=some o->∀ e∈o.after.toList,Region.binds .any e=true->e.on∈π)->Inv c G (dz ops.toList es s0 π) a w->wpAny c.P .any ops Q' fuel listed a w:=by
 intro fuel;induction fuel with
 | zero =>
  intro π G a w listed hf hn bp bW hl sM hI;have hlen:=rH m π hn bp;have fT:∀ k,k<m->k∈π:=λ k hk=>by
   cases hb:decide (k∈π) with
   | true=>exact a7Z hb
   | false =>
    have:=rH m (k::π) (a8b.2 ⟨b0m hb,hn⟩) (λ j hj=>by
     rcases a7J.1 hj with rfl|hj
     .exact hk
     .exact bp j hj)
    simp at this;omega
  suffices tZ:Inv c G (dz ops.toList es s0 (List.range m)) a w from Gf hE dv mX hQ 0 m kn G (dz ops.toList es s0 (List.range m)) a w listed (a7P _) (by omega) bW (λ k hk=>by rw[hl k hk];exact⟨bp k,fT k⟩) tZ (MT G a w tZ)
  have heq:∀ t,(dz ops.toList es s0 π).sl t=(dz ops.toList es s0 (List.range m)).sl t/\(dz ops.toList es s0 π).ag t=(dz ops.toList es s0 (List.range m)).ag t:=λ t =>
   N6 (bits:=2 ^ m - 1) mY bp (by simp) hn List.nodup_range (λ k hk _=>⟨fT k hk,by simpa using hk⟩) t (by
    unfold hidden;rw[List.any_eq_false];intro k hk;simp only[List.mem_range] at hk;split
    .split
     .simp[b0a,hk]
     .simp
    .simp)
  unfold Inv at hI ⊢;rw[Hh] at hI ⊢;rw[<-funext λ t=>(heq t).1,<-funext λ t=>(heq t).2];exact hI
 | succ fuel ih =>
  intro π G a w listed hf hn bp bW hl sM hI;by_cases fT:∀ k,k<m->k∈π
  .suffices tZ:Inv c G (dz ops.toList es s0 (List.range m)) a w from Gf hE dv mX hQ (fuel+1) m kn G (dz ops.toList es s0 (List.range m)) a w listed (a7P _) (by have:=rH m π hn bp;omega) bW (λ k hk=>by rw[hl k hk];exact⟨bp k,fT k⟩) tZ (MT G a w tZ)
   have heq:∀ t,(dz ops.toList es s0 π).sl t=(dz ops.toList es s0 (List.range m)).sl t/\(dz ops.toList es s0 π).ag t=(dz ops.toList es s0 (List.range m)).ag t:=λ t =>
    N6 (bits:=2 ^ m - 1) mY bp (by simp) hn List.nodup_range (λ k hk _=>⟨fT k hk,by simpa using hk⟩) t (by
     unfold hidden;rw[List.any_eq_false];intro k hk;simp only[List.mem_range] at hk;split
     .split
      .simp[b0a,hk]
      .simp
     .simp)
   unfold Inv at hI ⊢;rw[Hh] at hI ⊢;rw[<-funext λ t=>(heq t).1,<-funext λ t=>(heq t).2];exact hI
  ·
   have hex:∃ k,k<m/\k∉π/\∀ j,j<k->j∈π:=by
    have:∀ n,(∃ k,k<n/\k<m/\k∉π)->∃ k,k<m/\k∉π/\∀ j,j<k->j∈π:=by
     intro n;induction n with
     | zero=>rintro⟨k,hk,_⟩;omega
     | succ n UM =>
      rintro⟨k,hk,hkm,jz⟩;by_cases hs:∃ k,k<n/\k<m/\k∉π
      .exact UM hs
      .refine⟨k,hkm,jz,λ j hj=>?_⟩;cases hb:decide (j∈π) with
       | true=>exact a7Z hb
       | false=>exact absurd ⟨j,by omega,by omega,b0m hb⟩ hs
    refine this m ?_;have h1:∃ k,¬ (k<m->k∈π):=b0A.1 fT;obtain⟨k,hk⟩:=h1;have h2:=b0r.1 hk;exact⟨k,h2.1,h2.1,h2.2⟩
   obtain⟨k0,VX,o7,Sy⟩:=hex;have Ss:ops[k0]?=some (ops[k0]'(by omega)):=a8u (by omega);constructor
   .intro iu;have:k0∈Region.ready .any ops listed:=(mem_ready bW).2 ⟨_,Ss,by
     cases hb:listed.getD k0 false with
     | false=>rfl
     | true=>exact absurd ((hl k0 (by omega)).1 hb) o7,λ e he hb=>by
     have J4:=bL dv k0 ops[k0] (by simp) e he hb;exact (hl e.on (by omega)).2 (Sy e.on J4)⟩
    rw[iu] at this;cases this
   .intro i hi;obtain⟨o,cd,h1,h2⟩:=(mem_ready bW).1 hi;have DA:=(Array.getElem?_eq_some_iff.1 cd).1;have dR:ops.toList[i]?=some o:=by simpa using cd
    have rj:i∉π:=λ hh=>by
     have:=(hl i DA).2 hh;rw[h1] at this;cases this
    have MS:∀ e∈o.after.toList,Region.binds .any e=true->e.on∈π:=λ e he hb=>by
     have J4:=bL dv i o dR e he hb;exact (hl e.on (by omega)).1 (h2 e he hb)
    have zb:=Az (l:=ops.toList) (D:=λ k=>k∈π) (λ k hk o' cH e he hb=>sM k hk o' cH e he hb) i o dR MS;have oZ:i<m:=by
     rcases a8m i m with h|h
     .exact h
     .exact absurd (zb k0 (mX i o h dR k0 (by omega))) o7
    have GU:=Az (l:=ops.toList) (D:=λ k=>k<i) (λ k hk o' cH e he hb=>by
     have:=bL dv k o' cH e he hb;omega) i o dR (λ e he hb=>bL dv i o dR e he hb)
    have E4:=λ t hh=>N6 (l:=ops.toList) (es:=es) (s0:=s0) (m:=m) (bits:=(bG ops.toList []).getD i 0) (π:=π) (π':=List.range i) mY bp (by intro k hk;simp at hk;omega) hn b1a
     (λ k hk hb=>⟨zb k hb,by simpa using GU k hb⟩) t hh
    obtain⟨hg,cC,UH⟩:=YW i o oZ dR;have cw:OE ops.toList m ((bG ops.toList []).getD i 0) (dz ops.toList es s0 (List.range i))=OE ops.toList m ((bG ops.toList []).getD i 0) (dz ops.toList es s0 π):=by
     funext x;cases x with
     | tmp t =>
      simp only[OE];split
      .rfl
      .rename_i hh;exact ((E4 t hh).1).symm
     | _=>rfl
    have bP:Lc ops.toList m ((bG ops.toList []).getD i 0) (dz ops.toList es s0 (List.range i))=Lc ops.toList m ((bG ops.toList []).getD i 0) (dz ops.toList es s0 π):=by
     funext t;simp only[Lc];split
     .rfl
     .rename_i hh;exact ((E4 t hh).2).symm
    have hg':e8 ops.toList ((bG ops.toList []).getD i 0) (dz ops.toList es s0 π) o (es.getD i ⟨false, .any,none⟩).Dh:=by
     unfold e8 at hg ⊢;split
     .rename_i rm;simpa [rm] using hg
     .rename_i g want rm;simp only[rm] at hg;obtain⟨t,b,q1,q2,q3,q4⟩:=hg;refine⟨t,b,q1,q2,?_,q4⟩;have hgm:g<m:=Nat.lt_trans (GU g q2) oZ;have hh:hidden ops.toList m ((bG ops.toList []).getD i 0) t=false:=by
       unfold hidden;rw[List.any_eq_false];intro k hk;simp only[List.mem_range] at hk;split
       .rename_i d hd;split
        .rename_i Be;have Be:=a7w Be;subst Be;have:=mY k g d hk hgm hd q1;subst this;rw[q2];simp
        .simp
       .simp
      exact ((E4 t hh).1).trans q3
    have hw:=Dz (ops:=ops) rfl hI hg';have sN:∀ (G':Gh) (a':Act) (w':World),Inv c G' (dz ops.toList es s0 (π++[i])) a' w'->wpAny c.P .any ops Q' fuel (listed.setIfInBounds i true) a' w':=by
     intro G' a' w' tZ;refine ih (π++[i]) G' a' w' _ (by simp;omega) ?_ ?_ (by rw[a8S];exact bW) ?_ ?_ tZ
     .rw[a7Q];exact⟨hn,by simp,λ x hx y hy=>by simp at hy;subst hy;exact λ e=>rj (e ▸ hx)⟩
     .intro k hk;rcases a7y.1 hk with hk|hk
      .exact bp k hk
      .simp at hk;omega
     .intro k hk;rw[pc (by omega),hl k hk];simp
     .intro k hk o' cH e he hb;rcases a7y.1 hk with hk|hk
      .exact a9g _ (sM k hk o' cH e he hb)
      .simp at hk;subst hk;rw[dR] at cH;simp only[a7v] at cH;subst cH;exact a9g _ (MS e he hb)
    have QV:bZ ops.toList i=o.dst:=by simp[bZ,dR]
    unfold wpOp;simp only[cd];cases G6:(es.getD i ⟨false, .any,none⟩).Dh with
    | true =>
     rw[G6] at hw;rw[a7E hw];obtain⟨vc,hq,dO⟩:=cC G6;rw[cw,bP] at hq;refine .inl (a8X ?_ (Fq hE hI (lk':=Lc ops.toList m ((bG ops.toList []).getD i 0) (dz ops.toList es s0 π)) ?_ ?_ hq dO))
     .intro a' w' hd;obtain⟨G',mg⟩:=J8 hI (EX i o oZ dR) (λ t ob Be KF=>by
       rw[KF] at hq;have QU:=Hx hq;have h0:=oj i o t oZ dR QU Be;have xg:=(fC ops.toList es t π s0 (λ k hk hkd=>by
        have:=mY k i t (bp k hk) oZ hkd (by rw[QV];exact Be);subst this;exact rj hk)).2
       rw[xg,h0]) hd
      refine sN G' a' w' ?_;rw[rK,QV];exact mg
     .intro id ob aO;unfold Lc at aO;split at aO
      .cases aO
      .exact aO
     .intro x;cases x with
      | tmp t =>
       simp only[OE];split
       .trivial
       .exact aX hI (.tmp t)
      | const v=>exact aX hI (.const v)
      | global g=>exact aX hI (.global g)
      | func f=>exact aX hI (.func f)
    | false =>
     rw[G6] at hw;rw[hw];obtain⟨hv,KF⟩:=UH G6;refine sN G _ w ?_;rw[rK,QV,hv,KF,I6];exact Inv.put (v := .dN) hI rfl
theorem Nb{l:List Oper}{K:Prop}(h:Inv c G s a w):rG l s K->K:=by
 induction l with
 | nil=>exact λ h=>h
 | cons o r ih =>
  intro hk;simp only[rG] at hk;split at hk
  .exact ih (Co (h.aA _) hk)
  .exact ih hk
theorem Ma(hE:bo c.P c.E)(gM:c.P.follows .mixedOrders=true){id:Nat}{ops:Array Oper}{Q:ah->Prop}{Q':Exit->Act->World->Prop}(hQ:∀ G s a w,Inv c G s a w->Q s->Q' .normal a w)
  (h:Inv c G s a w) (hd:L9 c.E ops Q s):(Code.region id ops true).wp c.P Q' a w:=by
 unfold L9 at hd;simp only at hd;split at hd;case h_2=>exact hd.elim
 case h_1 hb =>
  simp only[Bool.and_eq_true] at hb;obtain⟨IB,yq,dv⟩:=hb;obtain⟨r,ha1,ha2,_⟩:=um ops.toList [];have MP:(bG ops.toList []).length=ops.size:=by rw[ha1];simpa using ha2
  obtain⟨hm1,_,hm3⟩:=wq (bG ops.toList []) 0 0 (a7P _);simp only[a8W] at hm1 hm3;rw[MP] at hm1;generalize hmd:lC (bG ops.toList []) 0 0=m at *
  have mX:∀ j o,m<=j->ops.toList[j]?=some o->∀ k,k<j->Nat.testBit ((bG ops.toList []).getD j 0) k=true:=by
   intro j o hmj ho k hk;have hj:j<ops.size:=by have:=(List.getElem?_eq_some_iff.1 ho).1;simpa using this
   have hg:(bG ops.toList [])[j]?=some ((bG ops.toList [])[j]'(by omega)):=List.getElem?_eq_getElem (by omega);have:=hm3 j _ hg hmj;rw[List.getD_eq_getElem?_getD,hg,Option.getD_some,show (bG ops.toList [])[j]'(by omega)=2 ^ j - 1 by omega,Nat.testBit_two_pow_sub_one];simpa using hk
  obtain⟨_,QV⟩:=AU yq;have mY:∀ j k t,j<m->k<m->bZ ops.toList j=some t->bZ ops.toList k=some t->j=k:=by
   have get:∀ j t,j<m->bZ ops.toList j=some t->((ops.toList.take m).map (·.dst))[j]?=some (some t):=by
    intro j t hj GZ;unfold bZ at GZ;simp only[Option.bind_eq_some_iff] at GZ;obtain⟨o,ho,Sz⟩:=GZ;rw[List.getElem?_map,List.getElem?_take,if_pos hj,ho];simp[Sz]
   intro j k t hj hk GZ hkt;exact QV j k t (get j t hj GZ) (get k t hk hkt)
  obtain⟨es,mj,s',nD,hq⟩:=oJ hd;have hlen:(ops.toList.take m).length=m:=by simp;omega
  have M0:∀ j o,(ops.toList.take m)[j]?=some o->ops.toList[0+j]?=some o:=λ j o ho=>by
   rw[a8O] at ho;split at ho
   .simpa using ho
   .cases ho
  obtain⟨W9,Zk⟩:=P8 (ops.toList.take m) 0 es [] _ s' nD M0 rfl rfl;simp only[a8l,a8W,hlen] at W9 Zk;subst Zk;have YI:Inv c G ((ops.toList.take m).foldl ah.fresh s) a w.drew:=yn _ (bf.drew h);refine wp_region_any gM ?_;refine TU hE (m:=m) (es:=es) (s0:=(ops.toList.take m).foldl ah.fresh s) dv hm1 mX mY ?_ (λ i o oZ ho=>a8g.1 IB o (a8i (by rw[a8O,a7E oZ];exact ho))) ?_ hQ (kn:=mj) (λ G a w hI=>Nb hI hq) ops.size [] G a _ _ (by simp) (by simp) (by simp) (by simp) ?_ (by simp) YI
  .intro i o oZ ho;exact W9 i o (by rw[a8O,a7E oZ];exact ho)
  .intro i o t oZ ho hc Be;exact (vY (ops.toList.take m) s t).2 o (a8i (by rw[a8O,a7E oZ];exact ho)) hc Be
  .intro k hk;simp[hk]
end
section
variable {w w':World}
theorem LO.ctx{c c':Ctx}{S:Nat->Prop}{v:Arg}{x:Value}(h:LO c S w v x)(bU:∀ b,St c S b->St c' S b):LO c' S w v x:=by
 cases v with
 | ref v=>obtain⟨b,o,cs,h1,h2,h3⟩:=h;exact⟨b,o,cs,h1,bU b h2,h3⟩
 | val v=>exact h
 | fn f=>exact h
 | cK v=>exact h
 | own v=>exact h
 | box k=>exact h
theorem C1.ctx{c c':Ctx}(hP:c'.P=c.P){G:Gh}{lk:Nat->Option aw}{v:AV}{x:Value}(h:C1 c G lk w v x)(bU:∀ b,St c G.S b->St c' G.S b):C1 c' G lk w v x:=by
 cases v with
 | cP v=>obtain⟨b,o,cs,h1,h2,h3⟩:=h;exact⟨b,o,cs,h1,bU b h2,h3⟩
 | gp v=>obtain⟨f,dY,l,h1,h2,h3⟩:=h;exact⟨f,dY,l,h1,hP ▸ h2,h3.imp λ _ _ _ q=>q.ctx bU⟩
 | _=>exact h
theorem TR.ctx{c c':Ctx}(hP:c'.P=c.P){G:Gh}{lk:Nat->Option aw}{v:AV}{x:Value}(h:TR c G lk w v x)(bU:∀ b,St c G.S b->St c' G.S b):TR c' G lk w v x:=by
 cases v with
 | aC id=>exact (show C1 c G lk w (.aC id) x from h).ctx hP bU
 | cP v=>exact (show C1 c G lk w (.cP v) x from h).ctx hP bU
 | agg cs=>obtain⟨l,h1,h2⟩:=h;exact⟨l,h1,h2.imp λ _ _ _ q=>q.ctx hP bU⟩
 | aQ v=>exact h
 | any=>trivial
 | _=>exact h.elim
theorem CR.ctx{c c':Ctx}(hP:c'.P=c.P){G:Gh}{lk:Nat->Option aw}{v:AV}{x:Value}(h:CR c G lk w v x)(bU:∀ b,St c G.S b->St c' G.S b):CR c' G lk w v x:=by
 cases v with
 | aQ v=>exact h
 | agg cs=>obtain⟨l,h1,h2⟩:=h;exact⟨l,h1,h2.imp λ _ _ _ q=>q.ctx hP bU⟩
 | any=>exact (show C1 c G lk w (.any) x from h).ctx hP bU
 | dN=>exact (show C1 c G lk w (.dN) x from h).ctx hP bU
 | nil=>exact (show C1 c G lk w (.nil) x from h).ctx hP bU
 | cP v=>exact (show C1 c G lk w (.cP v) x from h).ctx hP bU
 | ptr i o=>exact (show C1 c G lk w (.ptr i o) x from h).ctx hP bU
 | row i=>exact (show C1 c G lk w (.row i) x from h).ctx hP bU
 | dS i j o=>exact (show C1 c G lk w (.dS i j o) x from h).ctx hP bU
 | fZ vs=>exact (show C1 c G lk w (.fZ vs) x from h).ctx hP bU
 | fn f=>exact (show C1 c G lk w (.fn f) x from h).ctx hP bU
 | aC i=>exact (show C1 c G lk w (.aC i) x from h).ctx hP bU
 | sub i j o z=>exact (show C1 c G lk w (.sub i j o z) x from h).ctx hP bU
 | ed i j o z=>exact (show C1 c G lk w (.ed i j o z) x from h).ctx hP bU
 | cK f cs=>exact (show C1 c G lk w (.cK f cs) x from h).ctx hP bU
 | gp v=>exact (show C1 c G lk w (.gp v) x from h).ctx hP bU
 | mp i=>exact (show C1 c G lk w (.mp i) x from h).ctx hP bU
theorem VR.ctx{c c':Ctx}(hP:c'.P=c.P){G:Gh}{lk:Nat->Option aw}{v:AV}{x:Value}(h:VR c G lk w v x)(bU:∀ b,St c G.S b->St c' G.S b):VR c' G lk w v x:=by
 cases v with
 | aQ v=>exact h
 | agg cs=>obtain⟨l,h1,h2⟩:=h;exact⟨l,h1,h2.imp λ _ _ _ q=>q.ctx hP bU⟩
 | fZ vs=>obtain⟨l,h1,h2⟩:=h;exact⟨l,h1,h2.imp λ _ _ _ q=>q.ctx hP bU⟩
 | cK f cs=>obtain⟨l,h1,h2⟩:=h;exact⟨l,h1,h2.imp λ _ _ _ q=>q.ctx hP bU⟩
 | any=>exact (show C1 c G lk w (.any) x from h).ctx hP bU
 | dN=>exact (show C1 c G lk w (.dN) x from h).ctx hP bU
 | nil=>exact (show C1 c G lk w (.nil) x from h).ctx hP bU
 | cP v=>exact (show C1 c G lk w (.cP v) x from h).ctx hP bU
 | ptr i o=>exact (show C1 c G lk w (.ptr i o) x from h).ctx hP bU
 | row i=>exact (show C1 c G lk w (.row i) x from h).ctx hP bU
 | dS i j o=>exact (show C1 c G lk w (.dS i j o) x from h).ctx hP bU
 | fn f=>exact (show C1 c G lk w (.fn f) x from h).ctx hP bU
 | aC i=>exact (show C1 c G lk w (.aC i) x from h).ctx hP bU
 | sub i j o z=>exact (show C1 c G lk w (.sub i j o z) x from h).ctx hP bU
 | ed i j o z=>exact (show C1 c G lk w (.ed i j o z) x from h).ctx hP bU
 | gp v=>exact (show C1 c G lk w (.gp v) x from h).ctx hP bU
 | mp i=>exact (show C1 c G lk w (.mp i) x from h).ctx hP bU
theorem OR.ctx{c c':Ctx}(hP:c'.P=c.P){G:Gh}{lk:Nat->Option aw}{id:Nat}{o:aw}(h:OR c G lk w id o)(bU:∀ b,St c G.S b->St c' G.S b):OR c' G lk w id o:=by
 cases o with
 | box cs=>obtain⟨b,l,t,h1,h2,h3⟩:=h;exact⟨b,l,t,h1,h2,h3.imp λ _ _ _ q=>q.ctx hP bU⟩
 | row e τ xs=>exact h
 | aC τ xs=>exact h
 | map m=>exact h
def Ctx.fz(c:Ctx)(w:World)(S:Nat->Prop)(Z:Nat->Prop):Ctx :=
 { c with w0:=w,X:=λ b=>((c.w0.heap.size<=b/\b<w.heap.size)\/c.X b)/\¬ Z b,S0:=S,Z:=λ b=>Z b\/c.Z b }
theorem Inv.fz{c:Ctx}{G:Gh}{s:ah}{a:Act}(h:Inv c G s a w){Z:Nat->Prop}(hZ:∀ b,Z b->rb c G s.ag w b):Inv (c.fz w G.S Z) G s a w:=by
 have bU:∀ b,St c G.S b->St (c.fz w G.S Z) G.S b:=λ b hb=>by
  rcases hb with hb|⟨h1,h2,h3⟩
  .exact .inl hb
  .refine .inr ⟨a7F h1 h.aK.size,λ q=>q.1.elim (λ q=>by omega) h2,λ q=>q.elim (λ z=>(hZ b z).1.elim (λ q=>by omega) h2) h3⟩
 exact {
  defers:=h.defers,size:=h.size
  aK:=bJ.refl _ _
  iY:=⟨λ b hb=>hb.1.elim (λ q=>q.2) λ q=>a7F (h.iY.1 b q) h.aK.size,λ g hg=>by
   obtain⟨_,h2,h3,_⟩:=h.iY.2 g hg;obtain⟨g1,g2⟩:=h.Vj.2 g hg;exact⟨g1,λ q=>q.1.elim (λ q=>by omega) h2,h.dy g g1,g2⟩⟩
  dZ:=λ b _ _=>a9Q
  sX:=λ b hb=>hb
  dy:=h.dy
  aA:=λ i=>(h.aA i).ctx (c:=c) (c':=c.fz w G.S Z) rfl bU
  aH:=λ id o ho=>(h.aH id o ho).ctx (c:=c) (c':=c.fz w G.S Z) rfl bU
  place:=λ id o b ho hb=>by
   obtain⟨h1,h2,h3⟩:=h.place id o b ho hb;exact⟨.inr ⟨h1.imp (λ q=>⟨q,h3⟩) (λ q=>q),λ z=>(hZ b z).2.2.2.1 id o ho hb⟩,h2,h3⟩
  apart:=h.apart
  aN:={
   tr:=h.aN.tr,nd:=h.aN.nd,ap:=h.aN.ap
   pl:=λ id τ xs b ht hb=>by
    obtain⟨h1,h2,h3,h4⟩:=h.aN.pl id τ xs b ht hb;exact⟨.inr ⟨h1.imp (λ q=>⟨q,h3⟩) (λ q=>q),λ z=>(hZ b z).2.2.2.2 id τ xs ht hb⟩,h2,h3,h4⟩ }
  root:=h.root,fE:=h.fE,dq:=h.dq,eF:=h.eF }
theorem Inv.a6q{c:Ctx}{G:Gh}{s:ah}{a:Act}{G':Gh}{s':ah}{a':Act}(h:Inv c G s a w){Z:Nat->Prop}(hZ:∀ b,Z b->rb c G s.ag w b)(h':Inv (c.fz w G.S Z) G' s' a' w') :
  Inv c G' s' a' w'/\∀ b,Z b->w'.heap[b]?=w.heap[b]?/\rb c G' s'.ag w' b:=by
 have bU:∀ b,St (c.fz w G.S Z) G'.S b->St c G'.S b:=λ b hb=>by
  rcases hb with hb|⟨h1,h2,h3⟩
  .exact .inl hb
  .have hz:¬ Z b:=λ z=>h3 (.inl z);refine .inr ⟨?_,λ q=>h2 ⟨.inr q,hz⟩,λ q=>h3 (.inr q)⟩;rcases a8m b c.w0.heap.size with q|q
   .exact q
   .exact absurd ⟨.inl ⟨q,h1⟩,hz⟩ h2
 have back:∀ b,(w.heap.size<=b\/(c.fz w G.S Z).X b)->c.w0.heap.size<=b\/c.X b:=λ b hb=>by
  have:=h.aK.size;exact hb.elim (λ q => .inl (by omega)) λ q=>q.1.elim (λ q => .inl q.1) .inr
 refine⟨{
  defers:=h'.defers,size:=h'.size
  aK:=h.aK.trans h'.aK λ i hi hx=>hx.1.elim (λ q=>by omega) (λ q=>q)
  iY:=h.iY
  dZ:=λ b hb hx=>(h'.dZ b (a7F hb h.aK.size) (λ q=>q.1.elim (λ q=>by omega) hx)).trans (h.dZ b hb hx)
  sX:=λ b hb=>h'.sX b (h.sX b hb)
  dy:=h'.dy
  aA:=λ i=>(h'.aA i).ctx (c:=c.fz w G.S Z) (c':=c) rfl bU
  aH:=λ id o ho=>(h'.aH id o ho).ctx (c:=c.fz w G.S Z) (c':=c) rfl bU
  place:=λ id o b ho hb=>by
   obtain⟨h1,h2,h3⟩:=h'.place id o b ho hb;exact⟨back b h1,h2,h3⟩
  apart:=h'.apart
  aN:={
   tr:=h'.aN.tr,nd:=h'.aN.nd,ap:=h'.aN.ap
   pl:=λ id τ xs b ht hb=>by
    obtain⟨h1,h2,h3,h4⟩:=h'.aN.pl id τ xs b ht hb;exact⟨back b h1,h2,h3,h4⟩ }
  root:=h'.root,fE:=h'.fE,dq:=h'.dq,eF:=h'.eF },λ b z=>?_⟩
 obtain⟨z1,z2,z3,z4,z5⟩:=hZ b z;have ua:¬ (c.fz w G.S Z).X b:=λ q=>q.2 z;have gZ:¬ (w.heap.size<=b\/(c.fz w G.S Z).X b):=λ q=>q.elim (λ q=>by omega) ua;exact⟨h'.aK.block b z3 ua,z1,λ q=>z2 ((h'.dZ b z3 ua).1 q),a7F z3 h'.aK.size,λ i o cd hb=>gZ (h'.place i o b cd hb).1,λ j τ xs hj hb=>gZ (h'.aN.pl j τ xs b hj hb).1⟩
end
theorem tq{α β:Type}{f g:α->β}{l:Array α}(h:∀ x∈l.toList,f x=g x):l.map f=l.map g:=by
 apply b0S;rw[a9q,a9q];exact b1G h
theorem execOp_congr{o:Oper}{ρ Vv:Operand->Value}{l:List Operand}(h:Rt o.op=some l)(he:∀ x∈l,ρ x=Vv x):execOp ρ o=execOp Vv o:=by
 have parts:∀ ps:Array (Nat×Operand),l=ps.toList.map (·.2)->(ps.map λ (i,x)=>(i,ρ x))=ps.map λ (i,x)=>(i,Vv x):=λ ps hl=>tq λ x hx=>by
  obtain⟨i,x⟩:=x;simp only;rw[he x (by rw[hl];exact a7B.2 ⟨(i,x),hx,rfl⟩)]
 unfold Rt at h;split at h;case h_21=>cases h
 case h_20 T x l hh m bh =>
  simp only[a7v] at h;subst h;have key:∀ q:Option Operand,(∀ y∈q.toList,ρ y=Vv y)->q.map ρ=q.map Vv:=λ q hq=>by
   cases q with
   | none=>rfl
   | some y=>rw[a9R,a9R,hq y (by simp)]
  simp only[execOp,bh,he x (by simp),key l (λ y hy=>he y (by simp at hy;simp[hy])),key hh (λ y hy=>he y (by simp at hy;simp[hy])),key m (λ y hy=>he y (by simp at hy;simp[hy]))]
 case h_18 c bh =>
  split at h;case h_3=>cases h
  case h_1 f hc =>
   simp only[a7v] at h;subst h;have ha:c.args.map ρ=c.args.map Vv:=tq λ x hx=>he x (by simp[hx]);simp only[execOp,bh,resolve,hc,ha,he f (by simp)]
  case h_2 b hc =>
   simp only[a7v] at h;subst h;have ha:c.args.map ρ=c.args.map Vv:=tq λ x hx=>he x hx;simp only[execOp,bh,resolve,hc,ha]
 all_goals
  rename_i bh
  simp only[a7v] at h
  first
   | (have:=parts _ h.symm;simp only[execOp,bh,this];done)
   | (subst h;simp only[execOp,bh];done)
   | (subst h;simp only[execOp,bh,b0z];done)
   | (subst h;simp only[a7J,b0c,b1x,b1b,forall_eq] at he;simp only[execOp,bh,he];done)
   | (subst h;simp only[a7J,b0c,b1x,b1b,forall_eq] at he;simp only[execOp,bh,he.1,he.2];done)
   | (subst h;simp only[a7J,b0c,b1x,b1b,forall_eq] at he;simp only[execOp,bh,he.1,he.2.1,he.2.2];done)
theorem TI{u v:TV}(h:tQ u v):u=v:=by
 unfold tQ at h;split at h
 .rename_i x hx;have:=TV.aR hx;rw[this,h]
 .exact h.elim
theorem JP{v u:AV}(h:FW v u):v=u:=by
 unfold FW at h;split at h
 .rw[TI h]
 .rw[TI h]
 .rw[h]
 .rw[h]
 .rw[h.1,h.2]
 .rfl
 .rfl
 .exact h.elim
theorem Fs{c:Ctx}{G:Gh}{lk:Nat->Option aw}{a:Act}{w:World}{o:Oper}{v:AV}{x:Value}(hr:(execOp a.eval o).run c.P w = .ok (.value x) w)(hv:VR c G lk w v x) :
  ∃ x,(execOp a.eval o).run c.P w = .ok (.value x) w/\VR c G lk w v x:=⟨x,hr,hv⟩
theorem U8{c:Ctx}{G:Gh}{sl:Nat->AV}{n:Nat}{lk:Nat->Option aw}{a:Act}{w:World}(hE:bo c.P c.E)(hI:bf c G sl n lk a w){lk':Nat->Option aw}(bP:∀ id o,lk' id=some o->lk id=some o){ev:Operand->AV}(cw:∀ x,VR c G lk w (ev x) (a.eval x))
  {o:Oper} {vc:Vc} {v:AV} {ob:Option aw} (hq:Fp c.E lk' ev o=some (vc,v,ob)) (dO:vc.ok) (Q3:reads o.op=true) :
  ∃ x,(execOp a.eval o).run c.P w = .ok (.value x) w/\VR c G lk w v x:=by
 unfold Fp at hq;split at hq;case h_1 x bh =>
  simp only[a7v,a7x] at hq;obtain⟨rfl,rfl,rfl⟩:=hq;exact Fs (by simp[execOp,bh]) (cw x)
 case h_8 T ad bh =>
  split at hq
  .rename_i τ r hT;split at hq
   .rename_i u hu;simp only[a7v,a7x] at hq;obtain⟨rfl,rfl,rfl⟩:=hq;obtain⟨b,o',cs,h1,h2,h3,h4⟩:=nk hI.aH bP hu (cw ad);refine Fs ?_ h4;simp only[execOp,bh,h1,a7U,gD hE hT h2 h3,a7N,a7S]
   .cases hq
  .cases hq
 case h_9 x bh =>
  have key:∀ u,ev x=u->(∃ b o,a.eval x = .pointer (some ⟨b,o,none⟩))->vc = .none->v=u->ob=none->∃ x,(execOp a.eval o).run c.P w = .ok (.value x) w/\VR c G lk w v x:=by
   rintro u hu ⟨b,o',hx⟩ _ rfl rfl;refine Fs (x:=a.eval x) ?_ (hu ▸ cw x);simp only[execOp,bh,hx,a7S]
  have hx:=cw x;split at hq
  .rename_i u hu;simp only[a7v,a7x] at hq;rw[hu] at hx;obtain⟨b,o',cs,h1,_⟩:=hx;exact key _ hu ⟨b,o',h1⟩ hq.1.symm hq.2.1.symm hq.2.2.symm
  .rename_i id off hu;simp only[a7v,a7x] at hq;rw[hu] at hx;obtain⟨b,_,h1,_⟩:=hx;exact key _ hu ⟨b,off,h1⟩ hq.1.symm hq.2.1.symm hq.2.2.symm
  .rename_i id i off hu;simp only[a7v,a7x] at hq;rw[hu] at hx;obtain⟨b,_,_,_,_,_,_,_,_,h1⟩:=hx;exact key _ hu ⟨b,_,h1⟩ hq.1.symm hq.2.1.symm hq.2.2.symm
  .cases hq
 case h_10 T x i bh =>
  split at hq
  .rename_i s r hT;split at hq
   .cases hq
   .rename_i ha;split at hq
    .rename_i u hu;simp only[a7v,a7x] at hq;obtain⟨rfl,rfl,rfl⟩:=hq;obtain⟨b,o',h1,bp,h2⟩:=oK hu (cw x);refine Fs (x := .pointer (some ⟨b,o'+s.dB i,none⟩)) ?_ h2;simp only[execOp,bh,h1,a7U,yK hE hT ha bp,a7N,a7S]
    .cases hq
  .cases hq
 case h_12 T x ix bh =>
  split at hq
  .rename_i τ r hT;split at hq
   .rename_i k i hi;have fW:=cw ix;rw[hi] at fW;obtain⟨fW,_⟩:=fW;simp only[a7A,a7W] at fW;have hx:=cw x;split at hq
    .rename_i u hu;rw[hu] at hx;split at hq
     .rename_i xs jJ;have e:=TV.aR jJ;subst e;simp only[a7v,a7x] at hq;obtain⟨rfl,rfl,rfl⟩:=hq;obtain⟨h0,h1⟩:=dO;obtain⟨ad,cap,h2,h3,h4,h5⟩:=iy hx;rcases h5 with h5|⟨b,o',h5,h6,h7⟩
      .subst h5;simp only[a7T] at h1;omega
      .subst h5;have bp:i.toNat<xs.length:=by omega
       obtain⟨cs,m1,m2,m3⟩:=cR.at_ (n:=τ.size) _ b o' h7 (by
        intro d hd;obtain⟨y,_,rfl⟩:=a7B.1 hd;exact Ty.cm τ y) i.toNat (τ.aI (xs.getD i.toNat τ.zero)) (by simp[List.getD,bp])
       refine Fs (x := .pointer (some ⟨b,o'+i.toNat * τ.size,none⟩)) ?_ ⟨b,_,cs,rfl, .inl h6,m3,m2⟩;simp only[execOp,bh,h2,fW,a7U,nu hE hT h0 h1,a7N,a7S]
     .cases hq
    .rename_i id hu;rw[hu] at hx;split at hq
     .rename_i e' aT xs hl;split at hq
      .rename_i ei;have ei:=a7Z ei;subst ei;simp only[a7v,a7x] at hq;obtain⟨rfl,rfl,rfl⟩:=hq;obtain⟨h0,h1⟩:=dO;obtain⟨h2,_,_⟩:=hx;have mg:=bP _ _ hl;obtain⟨l,m1,_,_⟩:=hI.aH _ _ mg;have bp:i.toNat<xs.length:=by omega
       rcases m1.2 with ⟨_,hn⟩|⟨g,cap,cur,hv,_⟩
       .omega
       .refine Fs (x := .pointer (some ⟨g,0+i.toNat * aT.size,none⟩)) ?_ ⟨g,_,cap,e',aT,xs,hv,mg,bp,by simp⟩;simp only[execOp,bh,h2,hv,fW,a7U,nu hE hT h0 h1,a7N,a7S]
      .cases hq
     .cases hq
    .cases hq
   .cases hq
  .rename_i n r hT;split at hq
   .rename_i k i ha hi;have fW:=cw ix;rw[hi] at fW;obtain⟨fW,_⟩:=fW;simp only[a7A,a7W] at fW;split at hq
    .rename_i u hu;simp only[a7v,a7x] at hq;obtain⟨rfl,rfl,rfl⟩:=hq;obtain⟨b,o',h1,bp,h2⟩:=oK hu (cw x);refine Fs (x := .pointer (some ⟨b,o'+n.dB i,none⟩)) ?_ h2;simp only[execOp,bh,h1,fW,a7U,N0 hE hT ha bp,a7N,a7S]
    .cases hq
   .cases hq
  .cases hq
 case h_24=>cases hq
 all_goals
  rename_i bh
  rw[bh] at Q3
  cases Q3
theorem NX{c:Ctx}{G:Gh}{s:ah}{a:Act}{w:World}(hE:bo c.P c.E)(h:Inv c G s a w){o:Oper}{vc:Vc}{v:AV}(hq:Xr c.E s o=some (vc,v))(dO:vc.ok) :
  ∃ x,(execOp a.eval o).run c.P w = .ok (.value x) w/\VR c G s.ag w v x:=by
 unfold Xr at hq;split at hq
 .rename_i hr;split at hq
  .rename_i vc' v' SB;simp only[a7v,a7x] at hq;obtain⟨rfl,rfl⟩:=hq;exact U8 hE h (λ _ _ h=>h) (aX h) SB dO hr
  .cases hq
 .cases hq
theorem JQ:∀ {v u:List AV},L7 v u->v=u
 | [],[],_=>rfl
 | a::Z9,b::bs,h=>by rw[JP h.1,JQ h.2]
 | [],_::_,h=>h.elim
 | _::_,[],h=>h.elim
theorem TX{v u:AV}(h:Ql v u):v=u:=by
 unfold Ql at h;split at h
 .rw[JQ h]
 .exact JP h
structure kW(D:List Nat)(a b:Act):Prop where
 size:a.tmps.size=b.tmps.size
 da:a.defers=[]
 db:b.defers=[]
 at':∀ t,t∉D->a.tmps.getD t undef=b.tmps.getD t undef
theorem kW.put{D D':List Nat}{a b:Act}(h:kW D a b){d:Option Nat}{x:Value}(hD:∀ t,t∈D->t∉D'->d=some t):kW D' (a.put d x) (b.put d x) where
 size:=by cases d<;>simp[Act.put,h.size]
 da:=by cases d<;>exact h.da
 db:=by cases d<;>exact h.db
 at' t ht:=by
  rw[dQ,dQ,h.size];by_cases hd:d=some t
  .by_cases hl:t<b.tmps.size
   .rw[a7E ⟨hd,hl⟩,a7E ⟨hd,hl⟩]
   .rw[a7z (λ q=>hl q.2),a7z (λ q=>hl q.2)];have h1:a.tmps.getD t undef=undef:=by rw[a8h,a8P (by rw[h.size];omega)];rfl
    have h2:b.tmps.getD t undef=undef:=by rw[a8h,a8P (by omega)];rfl
    rw[h1,h2]
  .rw[a7z (λ q=>hd q.1),a7z (λ q=>hd q.1)];refine h.at' t λ hm=>hd (hD t hm ht)
theorem kW.exec{D:List Nat}{a b:Act}(h:kW D a b){o:Oper}(hu:eR D o=true):execOp a.eval o=execOp b.eval o:=by
 unfold eR at hu;split at hu
 .rename_i l hl;rw[a8g] at hu;refine execOp_congr hl λ x hx=>?_;have:=hu x hx;cases x with
  | tmp t=>exact h.at' t (by simpa using this)
  | _=>rfl
 .cases hu
theorem kP{D D':List Nat}{o:Oper}(h:eR D o=true)(hs:∀ t∈D',t∈D):eR D' o=true:=by
 unfold eR at h ⊢;split at h
 .rename_i l hl;rw[a8g] at h ⊢;intro x hx;have:=h x hx;cases x with
  | tmp t =>
   simp only[a7V,List.contains_eq_mem,a7C] at this ⊢;exact λ q=>this (hs t q)
  | _=>rfl
 .cases h
section
variable {c:Ctx} {G:Gh} {s:ah} {a:Act} {w w':World}
theorem XI{P:Program}{o:Oper}{b:Act}{N N':Act->World->Prop}{Q:Exit->Act->World->Prop}(he:execOp a.eval o=execOp b.eval o)(hN:∀ x w',N (b.put o.dst x) w'->N' (a.put o.dst x) w')
  (hd:∀ b' w',N b' w'->b'.defers=[]) (h:o.wp P b w N (λ _ _ _=>False)):o.wp P a w N' Q:=by
 unfold Oper.wp at *
 rw[he];generalize (execOp b.eval o).run P w=r at *
 cases r with
 | ok n w' =>
  cases n<;>simp only[Oper.upon] at h ⊢;case value v=>exact hN _ _ h
  case skip=>exact hN _ _ h
  case defer d =>
   have:=hd _ _ h;cases hh:o.dst<;>simp[Act.put,hh] at this
  case enter f args=>exact Calls.mono h (λ e Pa q=>by cases e<;>first|exact hN _ _ q|exact q.elim λ _ q=>q.elim λ _ q=>q.elim|exact q.elim)
  case row r args=>exact Rows.mono h (λ _ _ q=>hN _ _ q)
 | halt x w'=>cases x<;>simp only[Oper.upon] at h ⊢
theorem exists_least{p:Nat->Prop}:∀ n,p n->∃ k,p k/\∀ j,j<k->¬ p j:=by
 intro n;induction n using Nat.strongRecOn with
 | _ n ih =>
  intro h;by_cases hq:∃ j,j<n/\p j
  .obtain⟨j,h1,h2⟩:=hq;exact ih j h1 h2
  .exact⟨n,h,λ j hj hp=>hq ⟨j,hj,hp⟩⟩
theorem kW.eq{a b:Act}(h:kW [] a b):a=b:=by
 obtain⟨ta,da⟩:=a;obtain⟨tb,db⟩:=b;obtain⟨h1,h2,h3,h4⟩:=h;simp only at h1 h2 h3 h4;subst h2 h3;congr 1;apply Array.ext h1;intro i hi hj;have:=h4 i (by simp);simpa [Array.getD_eq_getD_getElem?,Array.getElem?_eq_getElem hi,Array.getElem?_eq_getElem hj] using this
theorem fA{R:List (Nat×Oper)}{t:Nat}:t∈dstsOf R↔∃ r∈R,r.2.dst=some t:=by
 simp[dstsOf,a9s]
theorem Xu(h:Inv c G s a w){d:Nat}{x:Value}(hv:VR c G s.ag w (s.aA.getD d .any) x):Inv c G s (a.put (some d) x) w:=by
 have:=bf.put (d:=some d) h hv;unfold Inv;have e:iz s.aA.length s.sl (some d) (s.aA.getD d .any)=s.sl:=by
  funext i;unfold iz;split
  .rename_i hi;obtain⟨h1,_⟩:=hi;simp only[a7v] at h1;subst h1;rfl
  .rfl
 rwa [e] at this
theorem iX{E:Env}{K:Prop}:∀ {R:List (Nat×Oper)},fN E R s K->(∀ r∈R,∃ d vc,r.2.dst=some d/\Xr E s r.2=some (vc,s.aA.getD d .any)/\Vc.ok vc)/\K
 | [],h=>⟨by simp,h⟩
 | r::rs,h=>by
  simp only[fN] at h;split at h
  .rename_i d vc v hd hr;have h1:=Vc.iA h;obtain⟨k1,k2⟩:=iX h1.2.2;refine⟨λ q hq=>?_,k2⟩;rcases a7J.1 hq with rfl|hq
   .exact⟨d,vc,hd,by rw[hr,TX h1.2.1],h1.1⟩
   .exact k1 q hq
  .exact h.elim
theorem Kd(hE:bo c.P c.E){K:ah->Prop}:∀ {R:List (Nat×Oper)} {s:ah} {a:Act},Inv c G s a w->FX c.E R K s->∃ t b,Inv c G t b w/\kW (dstsOf R) a b/\K t
 | [],s,a,hI,h=>⟨s,a,hI,⟨rfl,hI.defers,hI.defers,λ _ _=>rfl⟩,h⟩
 | r::rs,s,a,hI,h=>by
  simp only[FX] at h;split at h
  .rename_i d vc v hd hr;have h1:=Vc.iA h;obtain⟨x,_,hx⟩:=NX hE hI hr h1.1;obtain⟨t,b,k1,k2,k3⟩:=Kd hE (Inv.put (d:=some d) hI hx) (Co hx h1.2);refine⟨t,b,k1,⟨by rw[<-k2.size];simp[Act.put],hI.defers,k2.db,λ i hi=>?_⟩,k3⟩;have dm:d≠i:=λ e=>hi (fA.2 ⟨r,by simp,by rw[hd,e]⟩);rw[<-k2.at' i λ hm=>hi (by
    obtain⟨q,hq,hqd⟩:=fA.1 hm;exact fA.2 ⟨q,by simp[hq],hqd⟩),dQ,if_neg (λ q=>dm (by simpa using q.1))]
  .exact h.elim
theorem Rz{E:Env}{o:Oper}{K:ah->Prop}{T:TypeId}{d:Nat}{τ:Ty}{r:Nat×Nat}(bh:o.op = .alloc T)(hd:o.dst=some d)(hT:ag E.ty T=some (τ,r)) :
  jg E o K s↔(d<400000/\K (s.lay (some d) (.ptr d 0) (some (.box (zeroCells τ))))):=by
 have h1:jc E s o=[]:=by
  unfold jc;rw[bh];split<;>rfl
 have h2:Qq E s o=none:=by
  unfold Qq;rw[hd,bh];simp only;split<;>rfl
 have h3:QF E s o=none:=by unfold QF;rw[bh]
 have h4:Rs E s o=none:=by unfold Rs;rw[bh]
 obtain⟨r1,r2⟩:=r;have h5:Fp E s.ag s.eval o=some (.none, .ptr d 0,some (.box (zeroCells τ))):=by
  unfold Fp;rw[bh];simp only[hd,hT]
 unfold jg;have h6:RF E s o=none:=by unfold RF;rw[hd,bh]
 have h7:Ro E s o=none:=by unfold Ro;rw[bh]
 simp only[h1,b0I,h6,h2,h3,h4,h7,h5,Vc.and,bh,Om,hd,pE];cases hb:Nat.blt d 400000 with
 | true=>simp only[b0T] at hb;simp[hb]
 | false=>simp only[b0Q,b0j,b0T] at hb;simp[hb]
structure PE where
 i:Nat
 d:Nat
 x:Value
 b:Nat
 cs:List AV
noncomputable instance:DecidableEq PE:=λ _ _=>Classical.propDecidable _
structure xU(c:Ctx)(G:Gh)(lk:Nat->Option aw)(X:List (Nat×Oper))(a:Act)(w:World)(p:PE):Prop where
 ex:∃ o T τ r,(p.i,o)∈X/\o.op = .alloc T/\o.dst=some p.d/\ag c.E.ty T=some (τ,r)/\p.cs=zeroCells τ
 val:a.tmps.getD p.d undef=if p.d<a.tmps.size then p.x else undef
 ptr:p.x = .pointer (some ⟨p.b,0,none⟩)
 lt:p.d<400000
 new:∃ l t,w.heap[p.b]?=some (.cells l.toArray t (0,0))/\∀ (c:Ctx) (G:Gh) (lk:Nat->Option aw) (w:World),aM (C1 c G lk w) p.cs l
 fr:rb c G lk w p.b
theorem xU.put{lk:Nat->Option aw}{X:List (Nat×Oper)}{p:PE}(h:xU c G lk X a w p){d:Option Nat}{x:Value}(hd:d≠some p.d):xU c G lk X (a.put d x) w p :=
 ⟨h.ex,by rw[dQ,a7z (λ q=>hd q.1),fF];exact h.val,h.ptr,h.lt,h.new,h.fr⟩
theorem TT(h:Inv c G s a w){p:PE}{X:List (Nat×Oper)}{a2:Act}(hp:xU c G s.ag X a2 w p) :
  Inv c ⟨G.S,λ i=>if i=p.d then p.x else G.η i,G.φ⟩ (s.lay (some p.d) (.ptr p.d 0) (some (.box p.cs))) (a.put (some p.d) p.x) w:=by
 obtain⟨l,t,h1,h2⟩:=hp.new;refine Inv.V5 h hp.lt ⟨p.b,l,t,hp.ptr,h1,h2 _ _ _ _⟩ ⟨_,rfl,rfl⟩ λ b hb=>?_;rw[hp.ptr] at hb;simp only[dx,a7v] at hb;subst hb;obtain⟨q1,q2,q3,q4,q5⟩:=hp.fr;exact⟨q1,q2,q3,λ i o' _ ho=>q4 i o' ho,q5⟩
theorem TS{p:PE}{X:List (Nat×Oper)}{a2:Act}(hp:xU c G s.ag X a2 w p){b:Nat}(hb:rb c G s.ag w b)(dm:b≠p.b) :
  rb c ⟨G.S,λ i=>if i=p.d then p.x else G.η i,G.φ⟩ (s.lay (some p.d) (.ptr p.d 0) (some (.box p.cs))).ag w b:=by
 have bP:(s.lay (some p.d) (.ptr p.d 0) (some (.box p.cs))).ag=λ i=>if i=p.d then some ((aw.box p.cs).kill p.d) else (if i=p.d then none else (s.bO p.d).ag i):=by
  funext i;show ag ((p.d,(aw.box p.cs).kill p.d)::bD p.d (s.bO p.d).aH) i=_;rw[dj,dU];rfl
 obtain⟨q1,q2,q3,q4,q5⟩:=hb;rw[bP];refine⟨q1,q2,q3,λ i o ho e=>?_,λ j τ xs hj lb=>?_⟩
 .by_cases hi:i=p.d
  .simp only[a7E hi] at e;rw[hp.ptr] at e;simp only[dx,a7v] at e;exact dm e.symm
  .simp only[a7z hi] at e ho;rw[dM] at ho;simp only[a8f] at ho;obtain⟨o',cH,_⟩:=ho;exact q4 i o' cH e
 .by_cases hi:j=p.d
  .simp only[a7E hi] at hj;cases hj
  .simp only[a7z hi] at hj;rw[dM] at hj;exact q5 j τ xs (ib hj) lb
theorem QC(hE:bo c.P c.E)(h:Inv c G s a w){a2:Act}{o:Oper}{T:TypeId}{d i:Nat}{τ:Ty}{r:Nat×Nat}(bh:o.op = .alloc T)(hd:o.dst=some d)(hT:ag c.E.ty T=some (τ,r))(EX:d<400000){X:List (Nat×Oper)}(hX:(i,o)∈X) :
  ∃ w' p,p.i=i/\p.d=d/\p.b=w.heap.size/\(execOp a2.eval o).run c.P w = .ok (.value p.x) w'/\Inv c G s a w'/\xU c G s.ag X (a2.put (some d) p.x) w' p/\bJ (λ _=>False) w w':=by
 obtain⟨r1,r2⟩:=r;obtain⟨inf,z,h1,h2,h3,h4⟩:=(hE.info hT).ex;refine⟨w.alloc (.cells z.cells T),⟨i,d, .pointer (some ⟨w.heap.size,0,none⟩),w.heap.size,zeroCells τ⟩,rfl,rfl,rfl,?_,h.alloc _,?_,fj w _⟩
 .simp[execOp,bh,Instr.alloc,zeroValue,typeInfo,h1,h3,newVar,newRow]
 .refine⟨⟨o,T,τ,_,hX,bh,hd,hT,rfl⟩,?_,rfl,EX,⟨z.cells.toList,T,by simpa using heap_alloc_new w _,λ _ _ _ _=>gd h4⟩,?_⟩
  .simp only[dQ,fF,a8Y];split
   .rfl
   .rename_i bp;first|rfl|(rw[a8h,a8P (by omega)];rfl)
  .refine⟨.inl h.aK.size,λ q=>by have:=h.dy _ q;simp only at this;omega,by simp,λ j o' hj hb=>by have:=(h.place j o' _ hj hb).2.2;simp only at this;omega,λ j τ xs hj hb=>by have:=(h.aN.pl j τ xs _ hj hb).2.2.1;simp only at this;omega⟩
theorem O3{E:Env}{o:Oper}(h:HA E o=true):reads o.op=true:=by
 unfold HA at h;rw[Bool.and_eq_true] at h;exact h.1
theorem zR{E:Env}{o:Oper}(h:reads o.op=true):de E o=false:=by
 unfold de;generalize BV E o=q;generalize o.op=op at *
 cases op<;>first|rfl|cases h
theorem DB(bM:List Nat)(x:Nat×Oper):∀ l,(G8 bM x l).Perm (x::l)
 | [] => .refl _
 | y::ys=>by
  unfold G8;split
  .exact .refl _
  .exact ((DB bM x ys).cons y).trans (.swap x y ys)
theorem iv(E:Env)(bM:List Nat):∀ l,(Fg E bM l).Perm l
 | [] => .refl _
 | x::xs=>by
  unfold Fg;split
  .exact (DB bM x _).trans ((iv E bM xs).cons x)
  .exact (iv E bM xs).cons x
structure XE where
 i:Nat
 d:Nat
 x:Value
 o:Oper
noncomputable instance:DecidableEq XE:=λ _ _=>Classical.propDecidable _
structure WC(E:Env)(P:Program)(X:List (Nat×Oper))(a:Act)(e:XE):Prop where
 mem:(e.i,e.o)∈X
 dst:e.o.dst=some e.d
 val:a.tmps.getD e.d undef=if e.d<a.tmps.size then e.x else undef
 run:(iI e.o.op=true/\∀ w,(execOp a.eval e.o).run P w = .ok (.value e.x) w)\/((rn e.o.op=true/\BV E e.o=true)/\∃ p,e.x = .slice p 0 0)
theorem WC.lz{E:Env}{P:Program}{X:List (Nat×Oper)}{a:Act}{e:XE}(h:WC E P X a e):de E e.o=true:=by
 rcases h.run with ⟨q,_⟩|⟨⟨q,q'⟩,_⟩
 .simp[de,q]
 .simp[de,q,q']
theorem Hn{op:Op}(h:rn op=true):∃ T,op = .buildSlice T 0 #[]:=by
 unfold rn at h;split at h
 .rename_i T len ps;simp only[a7H] at h;have h1:=a7w h.1;have h2:ps = #[]:=a9v (a7w h.2);exact⟨T,by rw[h1,h2]⟩
 .cases h
theorem Vs{o:Oper}(h:rn o.op=true)(D:List Nat):eR D o=true:=by
 obtain⟨T,h⟩:=Hn h;simp[eR,Rt,h]
theorem WC.put{E:Env}{P:Program}{X:List (Nat×Oper)}{e:XE}(h:WC E P X a e)(hda:a.defers=[]){d:Option Nat}{x:Value}(hd:d≠some e.d)(hu:∀ t,d=some t->eR [t] e.o=true):WC E P X (a.put d x) e :=
 ⟨h.mem,h.dst,by rw[dQ,a7z (λ q=>hd q.1),fF];exact h.val,h.run.imp (λ hr=>⟨hr.1,λ w=>by
  cases d with
  | none=>exact hr.2 w
  | some t =>
   have hA:kW [t] (a.put (some t) x) a:=⟨fF a _ x,by rw[im];exact hda,hda,λ u hu=>by rw[dQ,if_neg (λ q=>hu (by simpa using q.1.symm))]⟩;rw[hA.exec (hu t rfl)];exact hr.2 w⟩) id⟩
theorem QG(h:Inv c G s a w){o:Oper}{t:Operand}{i:Nat}(bh:o.op = .extract t i)(hc:uA s o.op=true):∃ x,∀ w',(execOp a.eval o).run c.P w' = .ok (.value x) w':=by
 rw[bh] at hc;simp only[uA] at hc;split at hc
 .rename_i vs hv;have hx:=aX h t;rw[hv] at hx;obtain⟨l,h1,h2⟩:=hx;have bp:i<l.length:=by rw[<-h2.length];exact a8w hc
  refine⟨l[i],λ w'=>?_⟩;have h3:l[i]?=some l[i]:=a7L bp;simp[execOp,bh,Instr.extract,h1,h3]
 .cases hc
theorem NZ{E:Env}{o:Oper}{K:ah->Prop}{t:Operand}{i d:Nat}(bh:o.op = .extract t i)(hd:o.dst=some d)(hr:jg E o K s) :
  ∃ vs v,s.eval t = .fZ vs/\vs[i]?=some v/\known v (K (s.put (some d) v)):=by
 have h1:jc E s o=[]:=by
  unfold jc;rw[bh];split<;>rfl
 have h2:Qq E s o=none:=by
  unfold Qq;rw[hd,bh];simp only;split<;>rfl
 have h3:QF E s o=none:=by unfold QF;rw[bh]
 have h4:Rs E s o=none:=by unfold Rs;rw[bh]
 have h6:RF E s o=none:=by unfold RF;rw[hd,bh]
 have h7:Ro E s o=none:=by unfold Ro;rw[bh]
 unfold jg at hr;split at hr
 .exact hr.elim
 simp only[h1,b0I,h6,h2,h3,h4,h7] at hr;split at hr
 .rename_i vc v ob hq;unfold Fp at hq;rw[bh] at hq;simp only at hq;split at hq
  .rename_i vs hv;split at hq
   .rename_i u hu;simp only[Option.some.injEq,Prod.mk.injEq] at hq;obtain⟨rfl,rfl,rfl⟩:=hq;refine⟨vs,u,hv,hu,?_⟩;simpa [Vc.and,bh,Om,hd,ah.lay] using hr
   .cases hq
  .cases hq
 .exact hr.elim
theorem QH(h:Inv c G s a w){o:Oper}{t:Operand}{i:Nat}(bh:o.op = .extract t i){vs:List AV}{v:AV}(h1:s.eval t = .fZ vs)(h2:vs[i]?=some v){x:Value}(hx:(execOp a.eval o).run c.P w = .ok (.value x) w):VR c G s.ag w v x:=by
 have hv:=aX h t;rw[h1] at hv;obtain⟨l,k1,k2⟩:=hv;obtain⟨y,k3,k4⟩:=k2.at_ i v h2;have:(execOp a.eval o).run c.P w = .ok (.value y) w:=by simp[execOp,bh,Instr.extract,k1,k3]
 rw[this] at hx;simp only[b1m,Next.value.injEq,a7W] at hx;subst hx;cases v<;>first|exact k4|exact k4.elim|trivial
theorem Tf{E:Env}{o:Oper}{K:ah->Prop}{d:Nat}(hn:rn o.op=true/\BV E o=true)(ha:mM E o=true)(hd:o.dst=some d)(hr:jg E o K s) :
  ∃ τ,K (s.put (some d) (.aQ ⟨.slice τ,[]⟩)):=by
 obtain⟨hn,eN⟩:=hn;obtain⟨T,bh⟩:=Hn hn;unfold mM at ha;simp only[bh,hd,eN] at ha;split at ha
 .rename_i d' τ r Ux hT;simp only[a7v] at Ux;subst Ux;have ha:Nat.blt d 400000=true/\E.ro.contains d=true/\E.own.contains d=false:=by
   have ha:(Nat.blt d 400000&&(E.ro.contains d && !E.own.contains d))=true:=ha;simp only[a7H,a7V] at ha;exact⟨ha.1,ha.2.1,ha.2.2⟩
  obtain⟨h4,hro,dA⟩:=ha;have h1:jc E s o=[]:=by
   unfold jc;simp only[hd,dA,bh];simp
  have h2:Qq E s o=none:=by
   unfold Qq;simp only[hd,dA]
  have h3:QF E s o=none:=by unfold QF;rw[bh]
  have h4':Rs E s o=none:=by unfold Rs;rw[bh]
  have h6:RF E s o=none:=by unfold RF;rw[hd,bh]
  have h7:Ro E s o=none:=by unfold Ro;rw[bh]
  obtain⟨r1,r2⟩:=r;have h8:Fp E s.ag s.eval o=some (.none, .aQ ⟨.slice τ,[]⟩,none):=by
   unfold Fp;rw[bh];simp only[hd,hT,hro];rfl
  unfold jg at hr;simp only[h1,List.foldl_nil,h6,h2,h3,h4',h7,h8,Vc.and,bh,Om,hd,pE,h4] at hr;exact⟨τ,hr⟩
 .simp at ha
theorem Sa(hE:bo c.P c.E)(h:Inv c G s a w){a2:Act}{o:Oper}{d:Nat}(hn:rn o.op=true/\BV c.E o=true)(ha:mM c.E o=true)(hd:o.dst=some d) :
  ∃ w' x,(execOp a2.eval o).run c.P w = .ok (.value x) w'/\Inv c G s a w'/\(∃ p,x = .slice p 0 0)/\bJ (λ _=>False) w w':=by
 obtain⟨hn,eN⟩:=hn;obtain⟨T,bh⟩:=Hn hn;unfold mM at ha;simp only[bh,hd,eN] at ha;split at ha
 .rename_i d' τ r Ux hT;obtain⟨r1,r2⟩:=r;obtain⟨k1,_,inf,z,k2,k3,k4,k5,k6⟩:=hE.slice hT;refine⟨w.alloc (.cells #[] r2), .slice (some ⟨w.heap.size,0,none⟩) 0 0,?_,h.alloc _,⟨_,rfl⟩,fj w _⟩;have hz:(Array.range 0).map (λ _=>(default:Value)) = #[]:=by apply a9v;simp
  simp[execOp,bh,Instr.buildSlice,a8k k1,sizeOf,typeInfo,k2,Instr.fill,newRow,hz]
 .simp at ha
theorem jM(E:Env){X:List (Nat×Oper)}{x:Nat×Oper}{t:Nat}(hx:x∈X)(ha:de E x.2=true)(hd:x.2.dst=some t):t∈oM E X :=
 a9s.2 ⟨x,hx,by simp[ha,hd]⟩
theorem PU{E:Env}{bM:List Nat}{n:Nat}{R:List (Nat×Oper)}{K:ah->Prop}{s:ah}:gj E bM n R [] K s=K s:=by cases n<;>rfl
theorem Fj{E:Env}{bM:List Nat}{n:Nat}{R:List (Nat×Oper)}{x:Nat×Oper}{xs:List (Nat×Oper)}{K:ah->Prop}{s:ah}(h:gj E bM n R (x::xs) K s) :
  ∃ m,Ri E bM (x::xs) s=true/\(((eR (dstsOf (R.filter λ r => !Nat.testBit (bM.getD x.1 0) r.1)++oM E xs) x.2&&xs.all λ y=>de E y.2||Nat.testBit (bM.getD y.1 0) x.1)=true /\
    jg E x.2 (λ s'=>fN E (R.filter λ r => !Nat.testBit (bM.getD x.1 0) r.1) s' (gj E bM m (R.filter λ r => !Nat.testBit (bM.getD x.1 0) r.1) xs K s')) s) \/
   (de E x.2=false/\wS (Mi E bM (x::xs)) (λ y=>match eR (dstsOf (R.filter λ r => !Nat.testBit (bM.getD y.1 0) r.1)++oM E ((x::xs).filter λ z => !Nat.beq z.1 y.1)) y.2 with
      | true=>jg E y.2 (λ s'=>fN E (R.filter λ r => !Nat.testBit (bM.getD y.1 0) r.1) s' (gj E bM m (R.filter λ r => !Nat.testBit (bM.getD y.1 0) r.1) ((x::xs).filter λ z => !Nat.beq z.1 y.1) K s')) s
      | false=>False) (x::xs))):=by
 cases n with
 | zero=>exact h.elim
 | succ n =>
  simp only[gj] at h;refine⟨n,?_⟩;split at h
  .rename_i h1;refine⟨h1,?_⟩;split at h
   .rename_i h2;exact .inl ⟨h2,h⟩
   .split at h
    .exact h.elim
    .rename_i h3;exact .inr ⟨h3,h⟩
  .exact h.elim
theorem NB{E:Env}{bM:List Nat}{n:Nat}{R:List (Nat×Oper)}{x:Nat×Oper}{xs:List (Nat×Oper)}{K:ah->Prop}{s:ah}(hz:de E x.2=true)(h:gj E bM n R (x::xs) K s) :
  ∃ m,jg E x.2 (λ s'=>fN E (R.filter λ r => !Nat.testBit (bM.getD x.1 0) r.1) s' (gj E bM m (R.filter λ r => !Nat.testBit (bM.getD x.1 0) r.1) xs K s')) s:=by
 obtain⟨m,_,h|h⟩:=Fj h
 .exact⟨m,h.2⟩
 .rw[hz] at h;cases h.1
theorem yc{p:Nat×Oper->Bool}{f:Nat×Oper->Prop}:∀ {l:List (Nat×Oper)},wS p f l->∀ y∈l,p y=true->f y
 | [],_,y,hy,_=>by cases hy
 | x::l,h,y,hy,hp=>by
  unfold wS at h;split at h
  .rcases a7J.1 hy with rfl|hy
   .exact h.1
   .exact yc h.2 y hy hp
  .rename_i h0;rcases a7J.1 hy with rfl|hy
   .rw[hp] at h0;cases h0
   .exact yc h y hy hp
theorem V8{a b:Nat}:Nat.beq a b=false↔a≠b:=by
 constructor
 .intro h e;subst e;rw[Nat.beq_refl] at h;cases h
 .intro h;cases hb:Nat.beq a b
  .rfl
  .exact absurd (a7w hb) h
theorem MB{x:Nat×Oper}{xs:List (Nat×Oper)}(h:x.1∉xs.map (·.1)):((x::xs).filter λ z => !Nat.beq z.1 x.1)=xs:=by
 rw[b1c,a7z (by simp)];refine List.filter_eq_self.2 λ z hz=>?_;have:z.1≠x.1:=λ e=>h (a7B.2 ⟨z,hz,e⟩);rw[V8.2 this];rfl
theorem Pz{i:Nat}{o:Oper}:∀ {X:List (Nat×Oper)},(i,o)∈X->(X.map (·.1)).Nodup->(X.filter λ z => !Nat.beq z.1 i).length+1=X.length
 | [],h,_=>by cases h
 | x::xs,h,hn=>by
  simp only[a8d,a8b] at hn;rcases a7J.1 h with e|h
  .subst e;rw[MB (x:=(i,o)) hn.1];rfl
  .have dm:x.1≠i:=λ e=>hn.1 (a7B.2 ⟨_,h,e.symm⟩);rw[b1c,a7E (by rw[V8.2 dm];rfl),a7I,a7I,Pz h hn.2]
theorem US{E:Env}{bM:List Nat}{n:Nat}{R X:List (Nat×Oper)}{y:Nat×Oper}{K:ah->Prop}{s:ah}(h:gj E bM n R X K s)(hy:y∈X)(cX:(X.map (·.1)).Nodup)(hc:Mi E bM X y=true)
  (hh:∀ x xs,X=x::xs->de E x.2=true->Nat.testBit (bM.getD y.1 0) x.1=false) :
  ∃ m,eR (dstsOf (R.filter λ r => !Nat.testBit (bM.getD y.1 0) r.1)++oM E (X.filter λ z => !Nat.beq z.1 y.1)) y.2=true /\
   jg E y.2 (λ s'=>fN E (R.filter λ r => !Nat.testBit (bM.getD y.1 0) r.1) s' (gj E bM m (R.filter λ r => !Nat.testBit (bM.getD y.1 0) r.1) (X.filter λ z => !Nat.beq z.1 y.1) K s')) s:=by
 match X,hy,cX,hc,hh,h with
 | x::xs,hy,cX,hc,hh,h =>
  obtain⟨m,_,h|h⟩:=Fj h
  .obtain⟨h1,h2⟩:=h;simp only[a7H,a8g,a9c] at h1;have e:y=x:=by
    rcases a7J.1 hy with e|hy
    .exact e
    .simp only[Mi,a7H,a7V,a8g,a9c] at hc;rcases h1.2 y hy with q|q
     .rw[hc.1] at q;cases q
     .rcases hc.2 x (by simp) with k|k
      .rw[hh x xs rfl k] at q;cases q
      .rw[k] at q;cases q
   subst e;simp only[a8d,a8b] at cX;rw[MB cX.1];exact⟨m,h1.1,h2⟩
  .have:=yc h.2 y hy hc;split at this
   .rename_i hu;exact⟨m,hu,this⟩
   .exact this.elim
theorem SU(
          hE:bo c.P c.E) {ops:Array Oper} {hi:Nat} {Seg:List (Nat×Oper)} (dv:backward ops.toList=true) (hhi:hi<=ops.size)
  (mX:∀ j o,hi<=j->ops.toList[j]?=some o->∀ k,k<hi->Nat.testBit ((bG ops.toList []).getD j 0) k=true)
  (a1f:∀ x∈Seg,x.2.guard=none) (Lz:∀ x∈Seg,mM c.E x.2=true) (YX:∀ x∈Seg,iI x.2.op=true->eR (dstsOf (Seg.filter λ y => !Nat.testBit ((bG ops.toList []).getD x.1 0) y.1)++oM c.E Seg) x.2=true) (YU:∀ x∈Seg,∀ y∈Seg,∀ t,x.2.dst=some t->y.2.dst=some t->x.1=y.1) {K:ah->Prop} {Q':Exit->Act->World->Prop}
  (MT:∀ (fuel:Nat) (G:Gh) (s:ah) (a:Act) (w:World) (listed:Array Bool),ops.size=hi+fuel->listed.size=ops.size->(∀ k,k<ops.size->(listed.getD k false=true↔k<hi))->Inv c G s a w->K s->wpAny c.P .any ops Q' fuel listed a w) :
  ∀ (N fuel:Nat) (Rc X:List (Nat×Oper)) (R:List Nat) (PL:List PE) (SL:List XE) (G:Gh) (t:ah) (a b:Act) (w:World) (listed:Array Bool),fuel+X.length<=N->fuel+PL.length+SL.length=R.length+X.length+(ops.size - hi)->listed.size=ops.size ->
   (∀ i∈R,i<hi/\∃ o,ops.toList[i]?=some o/\(i,o)∈Rc/\(i,o)∈Seg/\kI c.E (bG ops.toList []) Seg (i,o)=true/\eR (dstsOf (Seg.filter λ y => !Nat.testBit ((bG ops.toList []).getD i 0) y.1)) o=true)->(∀ x∈X,x.1<hi/\ops.toList[x.1]?=some x.2/\x∈Seg)->R.Nodup->(X.map (·.1)).Nodup->(∀ i∈R,∀ x∈X,i≠x.1) ->
   (PL.map PE.i++SL.map XE.i).Nodup->(PL.map PE.b).Nodup->(∀ p∈PL,xU c G t.ag X a w p)->(∀ e∈SL,WC c.E c.P X a e) ->
   (∀ k,k<ops.size->(listed.getD k false=true↔k<hi/\k∉R/\((∀ x∈X,x.1≠k)\/k∈PL.map PE.i++SL.map XE.i)))->(∀ k,k<ops.size->listed.getD k false=true->∀ o,ops.toList[k]?=some o->∀ e∈o.after.toList,Region.binds .any e=true->listed.getD e.on false=true) ->
   Inv c G t b w->kW (R.filterMap (bZ ops.toList)++(PL.map PE.d++SL.map XE.d)) a b->(∀ i∈R,∀ o,ops.toList[i]?=some o->∃ d vc,o.dst=some d/\Xr c.E t o=some (vc,t.aA.getD d .any)/\Vc.ok vc) ->
   ∀ n,gj c.E (bG ops.toList []) n Rc X K t->wpAny c.P .any ops Q' fuel listed a w:=by
 intro N;induction N with
 | zero =>
  intro fuel Rc X R PL SL G t a b w listed hN hf bW hR hX Iz GR GO KA QO kj k9 hl xe hI hA hs nn hK;have h2:X=[]:=a8G (by omega);subst h2;have h3:PL=[]:=by
   cases PL with
   | nil=>rfl
   | cons p PL=>obtain⟨o,T,τ,r,hm,_⟩:=(kj p (by simp)).ex;cases hm
  subst h3;have h4:SL=[]:=by
   cases SL with
   | nil=>rfl
   | cons p SL=>have hm:=(k9 p (by simp)).mem;cases hm
  subst h4;have h1:R=[]:=List.eq_nil_of_length_eq_zero (by simp at hf;omega);subst h1;have Bb:a=b:=kW.eq (by simpa using hA);subst Bb;exact MT fuel G t a w listed (by simp at hf;omega) bW (λ k hk=>by rw[hl k hk];simp) hI (by rw[PU] at hK;exact hK)
 | succ N ih =>
  intro fuel Rc X R PL SL G t a b w listed hN hf bW hR hX Iz GR GO KA QO kj k9 hl xe hI hA hs nn hK;by_cases EY:R=[]/\X=[]
  .obtain⟨rfl,rfl⟩:=EY;have h3:PL=[]:=by
    cases PL with
    | nil=>rfl
    | cons p PL=>obtain⟨o,T,τ,r,hm,_⟩:=(kj p (by simp)).ex;cases hm
   subst h3;have h4:SL=[]:=by
    cases SL with
    | nil=>rfl
    | cons p SL=>have hm:=(k9 p (by simp)).mem;cases hm
   subst h4;have Bb:a=b:=kW.eq (by simpa using hA);subst Bb;exact MT fuel G t a w listed (by simp at hf;omega) bW (λ k hk=>by rw[hl k hk];simp) hI (by rw[PU] at hK;exact hK)
  have Us:∀ i o,i<ops.size->ops.toList[i]?=some o->listed.getD i false=true->∀ k,Nat.testBit ((bG ops.toList []).getD i 0) k=true->listed.getD k false=true/\k<ops.size:=λ i o hi ho hli k hk =>
   Az (l:=ops.toList) (D:=λ k=>listed.getD k false=true/\k<ops.size) (λ k hk o' cH e he hb=>⟨xe k hk.2 hk.1 o' cH e he hb,by
    have:=bL dv k o' cH e he hb;have:=hk.2;omega⟩) i o ho (λ e he hb=>⟨xe i hi hli o ho e he hb,by
    have:=bL dv i o ho e he hb;omega⟩) k hk
  by_cases Ly:∃ x0 xs p,X=x0::xs/\p∈PL/\p.i=x0.1
  .obtain⟨x0,xs,p,rfl,hp,W4⟩:=Ly;obtain⟨o,T,τ,r,hm,bh,E2,hT,ij⟩:=(kj p hp).ex;have Xc:x0=(p.i,o):=by
    have h1:=(hX x0 (by simp)).2.1;have h2:=(hX _ hm).2.1;rw[<-W4,h2] at h1;simp only[a7v] at h1;rw[h1,W4]
   subst Xc;obtain⟨mm,hK⟩:=NB (by simp[de,lv,bh]) hK;rw[Rz bh E2 hT,<-ij] at hK;obtain⟨k1,k2⟩:=iX hK.2;have MM:=hX _ hm;have Y7:listed.getD p.i false=true:=(hl p.i (by have:=MM.1;simp only at this;omega)).2 ⟨MM.1,λ q=>GO _ q _ hm rfl, .inr (a7y.2 (.inl (a7B.2 ⟨p,hp,rfl⟩)))⟩;have ff:∀ j∈R,∃ o',ops.toList[j]?=some o'/\(j,o')∈Rc.filter λ r => !Nat.testBit ((bG ops.toList []).getD p.i 0) r.1:=λ j hj=>by
    obtain⟨q1,o',q2,q3,_,_⟩:=hR j hj;refine⟨o',q2,a8E.2 ⟨q3,?_⟩⟩;simp only[a7V];cases hb:Nat.testBit ((bG ops.toList []).getD p.i 0) j with
    | false=>rfl
    | true=>exact absurd hj ((hl j (by omega)).1 (Us p.i o (by have:=MM.1;simp only at this;omega) MM.2.1 Y7 j hb).1).2.1
   have Y9:∀ q∈PL.erase p,q∈PL/\q.i≠p.i/\q.b≠p.b:=λ q hq=>by
    have VZ:=a9b hq;have IH:=b1y hp;have n1:=(IH.map PE.i).nodup_iff.1 (a7Q.1 KA).1;have n2:=(IH.map PE.b).nodup_iff.1 QO;simp only[a8d,a8b] at n1 n2;exact⟨VZ,λ e=>n1.1 (a7B.2 ⟨q,hq,e⟩),λ e=>n2.1 (a7B.2 ⟨q,hq,e⟩)⟩
   have a3D:(PL.erase p).length+1=PL.length:=by
    have:=a9w hp;have:=a9B hp;omega
   simp only[a8d,a8b] at GR;refine ih fuel _ xs R (PL.erase p) SL _ _ a (b.put (some p.d) p.x) w listed (by simp at hN;omega) (by simp at hf;omega) bW (λ j hj=>?_) (λ y hy=>hX y (by simp[hy])) Iz GR.2 (λ j hj y hy=>GO j hj y (by simp[hy])) ?_ ?_ (λ q hq=>?_) (λ e he=>?_) (λ k hk=>?_) xe (TT hI (kj p hp)) ?_ (λ j hj o' cH=>?_) _ k2
   .obtain⟨q1,o',q2,q3,q4,q7⟩:=hR j hj;obtain⟨o2,q5,q6⟩:=ff j hj;have e:o'=o2:=by rw[q2] at q5;simpa using q5
    subst e;exact⟨q1,o',q2,q6,q4,q7⟩
   .exact KA.sublist ((b0d _ b0J).append (List.Sublist.refl _))
   .exact QO.sublist (b0d _ b0J)
   .obtain⟨Aj,sP,hq3⟩:=Y9 q hq;obtain⟨o2,T2,iP,r2,m1,m2,m3,m4,m5⟩:=(kj q Aj).ex;refine⟨⟨o2,T2,iP,r2,?_,m2,m3,m4,m5⟩,(kj q Aj).val,(kj q Aj).ptr,(kj q Aj).lt,(kj q Aj).new,TS (kj p hp) (kj q Aj).fr hq3⟩;rcases a7J.1 m1 with e|m1
    .simp only[a7x] at e;exact absurd e.1 sP
    .exact m1
   .have h3:=k9 e he;refine⟨?_,h3.dst,h3.val,h3.run⟩;rcases a7J.1 h3.mem with q|q
    .simp only[a7x] at q;rcases h3.run with ⟨q',_⟩|⟨⟨q',_⟩,_⟩<;>(rw[q.2,bh] at q';cases q')
    .exact q
   .rw[hl k hk];constructor
    .rintro⟨q1,q2,q3⟩;refine⟨q1,q2,?_⟩;by_cases jz:k=p.i
     .subst jz;exact .inl λ y hy e=>GR.1 (a7B.2 ⟨y,hy,e⟩)
     .rcases q3 with q3|q3
      .exact .inl λ y hy=>q3 y (by simp[hy])
      .rcases a7y.1 q3 with q3|q3
       .obtain⟨q,hq,rfl⟩:=a7B.1 q3;exact .inr (a7y.2 (.inl (a7B.2 ⟨q,(a9J (λ e=>jz (by rw[e]))).2 hq,rfl⟩)))
       .exact .inr (a7y.2 (.inr q3))
    .rintro⟨q1,q2,q3⟩;refine⟨q1,q2,?_⟩;by_cases jz:k=p.i
     .subst jz;exact .inr (a7y.2 (.inl (a7B.2 ⟨p,hp,rfl⟩)))
     .rcases q3 with q3|q3
      .refine .inl λ y hy=>?_;rcases a7J.1 hy with rfl|hy
       .exact λ e=>jz e.symm
       .exact q3 y hy
      .rcases a7y.1 q3 with q3|q3
       .obtain⟨q,hq,rfl⟩:=a7B.1 q3;exact .inr (a7y.2 (.inl (a7B.2 ⟨q,a9b hq,rfl⟩)))
       .exact .inr (a7y.2 (.inr q3))
   .refine⟨by rw[fF];exact hA.size,hA.da,by rw[im];exact hA.db,λ u hu=>?_⟩;by_cases UJ:u=p.d
    .subst UJ;rw[(kj p hp).val,dQ,<-hA.size];by_cases bp:p.d<a.tmps.size
     .rw[a7E bp,a7E ⟨rfl,bp⟩]
     .rw[a7z bp,a7z (λ q=>bp q.2),a8h,a8P (by rw[<-hA.size];omega)];rfl
    .rw[dQ,if_neg (λ q=>UJ (by simpa using q.1.symm))];refine hA.at' u λ hm=>hu ?_;rcases List.mem_append.1 hm with hm|hm
     .exact a7y.2 (.inl hm)
     .rcases a7y.1 hm with hm|hm
      .obtain⟨q,hq,rfl⟩:=a7B.1 hm;exact a7y.2 (.inr (a7y.2 (.inl (a7B.2 ⟨q,(a9J (λ e=>UJ (by rw[e]))).2 hq,rfl⟩))))
      .exact a7y.2 (.inr (a7y.2 (.inr hm)))
   .obtain⟨o2,q5,q6⟩:=ff j hj;rw[q5] at cH;simp only[a7v] at cH;subst cH;exact k1 (j,o2) q6
  by_cases GS:∃ x0 xs e,X=x0::xs/\e∈SL/\e.i=x0.1
  .obtain⟨x0,xs,e,rfl,he,hei⟩:=GS;have QN:=k9 e he;have Xc:x0=(e.i,e.o):=by
    have h1:=(hX x0 (by simp)).2.1;have h2:=(hX _ QN.mem).2.1;rw[<-hei,h2] at h1;simp only[a7v] at h1;rw[h1,hei]
   subst Xc;obtain⟨mm,hK⟩:=NB QN.lz hK;have MM:=hX _ QN.mem;have Y7:listed.getD e.i false=true:=(hl e.i (by have:=MM.1;simp only at this;omega)).2 ⟨MM.1,λ q=>GO _ q _ QN.mem rfl, .inr (a7y.2 (.inr (a7B.2 ⟨e,he,rfl⟩)))⟩;have YP:=Us e.i e.o (by have:=MM.1;simp only at this;omega) MM.2.1 Y7;have ff:∀ j∈R,∃ o',ops.toList[j]?=some o'/\(j,o')∈Rc.filter λ r => !Nat.testBit ((bG ops.toList []).getD e.i 0) r.1:=λ j hj=>by
    obtain⟨q1,o',q2,q3,_,_⟩:=hR j hj;refine⟨o',q2,a8E.2 ⟨q3,?_⟩⟩;simp only[a7V];cases hb:Nat.testBit ((bG ops.toList []).getD e.i 0) j with
    | false=>rfl
    | true=>exact absurd hj ((hl j (by omega)).1 (YP j hb).1).2.1
   have hDu:∀ u,u∈R.filterMap (bZ ops.toList)++(PL.map PE.d++SL.map XE.d)->u∈dstsOf (Seg.filter λ y => !Nat.testBit ((bG ops.toList []).getD e.i 0) y.1)++oM c.E Seg:=λ u hu=>by
    rcases a7y.1 hu with hu|hu
    .obtain⟨j,hj,Ai⟩:=List.mem_filterMap.1 hu;obtain⟨q1,o',q2,_,q3,_⟩:=hR j hj;refine List.mem_append.2 (.inl (fA.2 ⟨(j,o'),List.mem_filter.2 ⟨q3,?_⟩,by simpa [bZ,q2] using Ai⟩));simp only[Bool.not_eq_true'];cases hb:Nat.testBit ((bG ops.toList []).getD e.i 0) j with
     | false=>rfl
     | true=>exact absurd hj ((hl j (by omega)).1 (YP j hb).1).2.1
    .rcases a7y.1 hu with hu|hu
     .obtain⟨p,hp,rfl⟩:=a7B.1 hu;obtain⟨o2,T,τ,r,hm,MY,E2,_⟩:=(kj p hp).ex;exact a7y.2 (.inr (jM c.E (hX _ hm).2.2 (by simp[de,lv,MY]) E2))
     .obtain⟨q,hq,rfl⟩:=a7B.1 hu;exact a7y.2 (.inr (jM c.E (hX _ (k9 q hq).mem).2.2 (k9 q hq).lz (k9 q hq).dst))
   obtain⟨v,M5,hK⟩:∃ v,VR c G t.ag w v e.x/\fN c.E (Rc.filter λ r => !Nat.testBit ((bG ops.toList []).getD e.i 0) r.1) (t.put (some e.d) v) (gj c.E (bG ops.toList []) mm (Rc.filter λ r => !Nat.testBit ((bG ops.toList []).getD e.i 0) r.1) xs K (t.put (some e.d) v)):=by
    rcases QN.run with ⟨hx,hr⟩|⟨hx,p,hp⟩
    .obtain⟨tt,ix,bh⟩:∃ tt ix,e.o.op = .extract tt ix:=by
      have:=hx;unfold iI at this;split at this
      .exact⟨_,_,by assumption⟩
      .cases this
     obtain⟨vs,v,hv1,hv2,hK⟩:=NZ bh QN.dst hK;have cC:=hr w;rw[hA.exec (kP (YX _ MM.2.2 hx) hDu)] at cC;have M5:=QH hI bh hv1 hv2 cC;exact⟨v,M5,Co M5 hK⟩
    .obtain⟨τ,hK⟩:=Tf hx (Lz _ MM.2.2) QN.dst hK;refine⟨_,?_,hK⟩;rw[hp];exact⟨p,0,rfl,a7P _,by simp[maxLen],by simp, .inl rfl⟩
   obtain⟨k1,k2⟩:=iX hK;have Y9:∀ q∈SL.erase e,q∈SL/\q.i≠e.i:=λ q hq=>by
    have VZ:=a9b hq;have IH:=b1y he;have n1:=(IH.map XE.i).nodup_iff.1 (a7Q.1 KA).2.1;simp only[a8d,a8b] at n1;exact⟨VZ,λ q'=>n1.1 (a7B.2 ⟨q,hq,q'⟩)⟩
   have a3D:(SL.erase e).length+1=SL.length:=by
    have:=a9w he;have:=a9B he;omega
   simp only[a8d,a8b] at GR;refine ih fuel _ xs R PL (SL.erase e) _ _ a (b.put (some e.d) e.x) w listed (by simp at hN;omega) (by simp at hf;omega) bW (λ j hj=>?_) (λ y hy=>hX y (by simp[hy])) Iz GR.2 (λ j hj y hy=>GO j hj y (by simp[hy])) ?_ QO (λ q hq=>?_) (λ q hq=>?_) (λ k hk=>?_) xe (Inv.put (d:=some e.d) hI M5) ?_ (λ j hj o' cH=>?_) _ k2
   .obtain⟨q1,o',q2,q3,q4,q7⟩:=hR j hj;obtain⟨o2,q5,q6⟩:=ff j hj;have e:o'=o2:=by rw[q2] at q5;simpa using q5
    subst e;exact⟨q1,o',q2,q6,q4,q7⟩
   .exact KA.sublist ((List.Sublist.refl _).append (b0d _ b0J))
   .obtain⟨o2,T2,iP,r2,m1,m2,m3,m4,m5⟩:=(kj q hq).ex;refine⟨⟨o2,T2,iP,r2,?_,m2,m3,m4,m5⟩,(kj q hq).val,(kj q hq).ptr,(kj q hq).lt,(kj q hq).new,(kj q hq).fr⟩;rcases a7J.1 m1 with e'|m1
    .simp only[a7x] at e';rcases QN.run with ⟨q',_⟩|⟨⟨q',_⟩,_⟩<;>(rw[<-e'.2,m2] at q';cases q')
    .exact m1
   .obtain⟨Aj,sP⟩:=Y9 q hq;have h3:=k9 q Aj;refine⟨?_,h3.dst,h3.val,h3.run⟩;rcases a7J.1 h3.mem with e'|e'
    .simp only[a7x] at e';exact absurd e'.1 sP
    .exact e'
   .rw[hl k hk];constructor
    .rintro⟨q1,q2,q3⟩;refine⟨q1,q2,?_⟩;by_cases jz:k=e.i
     .subst jz;exact .inl λ y hy e=>GR.1 (a7B.2 ⟨y,hy,e⟩)
     .rcases q3 with q3|q3
      .exact .inl λ y hy=>q3 y (by simp[hy])
      .rcases a7y.1 q3 with q3|q3
       .exact .inr (a7y.2 (.inl q3))
       .obtain⟨q,hq,rfl⟩:=a7B.1 q3;exact .inr (a7y.2 (.inr (a7B.2 ⟨q,(a9J (λ e=>jz (by rw[e]))).2 hq,rfl⟩)))
    .rintro⟨q1,q2,q3⟩;refine⟨q1,q2,?_⟩;by_cases jz:k=e.i
     .subst jz;exact .inr (a7y.2 (.inr (a7B.2 ⟨e,he,rfl⟩)))
     .rcases q3 with q3|q3
      .refine .inl λ y hy=>?_;rcases a7J.1 hy with rfl|hy
       .exact λ e=>jz e.symm
       .exact q3 y hy
      .rcases a7y.1 q3 with q3|q3
       .exact .inr (a7y.2 (.inl q3))
       .obtain⟨q,hq,rfl⟩:=a7B.1 q3;exact .inr (a7y.2 (.inr (a7B.2 ⟨q,a9b hq,rfl⟩)))
   .refine⟨by rw[fF];exact hA.size,hA.da,by rw[im];exact hA.db,λ u hu=>?_⟩;by_cases UJ:u=e.d
    .subst UJ;rw[QN.val,dQ,<-hA.size];by_cases bp:e.d<a.tmps.size
     .rw[a7E bp,a7E ⟨rfl,bp⟩]
     .rw[a7z bp,a7z (λ q=>bp q.2),a8h,a8P (by rw[<-hA.size];omega)];rfl
    .rw[dQ,if_neg (λ q=>UJ (by simpa using q.1.symm))];refine hA.at' u λ hm=>hu ?_;rcases List.mem_append.1 hm with hm|hm
     .exact a7y.2 (.inl hm)
     .rcases a7y.1 hm with hm|hm
      .exact a7y.2 (.inr (a7y.2 (.inl hm)))
      .obtain⟨q,hq,rfl⟩:=a7B.1 hm;exact a7y.2 (.inr (a7y.2 (.inr (a7B.2 ⟨q,(a9J (λ e=>UJ (by rw[e]))).2 hq,rfl⟩))))
   .obtain⟨o2,q5,q6⟩:=ff j hj;rw[q5] at cH;simp only[a7v] at cH;subst cH;exact k1 (j,o2) q6
  have YM:∀ p∈PL,∃ x∈X,x.1=p.i:=λ p hp=>by
   obtain⟨o,T,τ,r,hm,_⟩:=(kj p hp).ex;exact⟨_,hm,rfl⟩
  have Sk:∀ p∈SL,∃ x∈X,x.1=p.i:=λ p hp=>⟨_,(k9 p hp).mem,rfl⟩;have hun:∃ k,k<hi/\¬ (listed.getD k false=true):=by
   rcases R with _|⟨i,R⟩
   .rcases X with _|⟨x,X⟩
    .exact absurd ⟨rfl,rfl⟩ EY
    .have:=(hX x (by simp)).1;refine⟨x.1,this,λ hh=>((hl x.1 (by omega)).1 hh).2.2.elim (λ q=>q x (by simp) rfl) λ q=>?_⟩;rcases a7y.1 q with q|q
     .obtain⟨p,hp,e⟩:=a7B.1 q;exact Ly ⟨x,X,p,rfl,hp,e⟩
     .obtain⟨p,hp,e⟩:=a7B.1 q;exact GS ⟨x,X,p,rfl,hp,e⟩
   .have:=(hR i (by simp)).1;exact⟨i,this,λ hh=>((hl i (by omega)).1 hh).2.1 (by simp)⟩
  have Bh:PL.length+SL.length<R.length+X.length:=by
   rcases R with _|⟨i,R⟩
   .rcases X with _|⟨x,X⟩
    .exact absurd ⟨rfl,rfl⟩ EY
    .have uH:(PL.map PE.i++SL.map XE.i) ⊆ X.map (·.1):=λ k hk=>by
      rcases a7y.1 hk with hk|hk
      .obtain⟨p,hp,rfl⟩:=a7B.1 hk;obtain⟨y,hy,e⟩:=YM p hp;rcases a7J.1 hy with rfl|hy
       .exact absurd ⟨_,_,p,rfl,hp,e.symm⟩ Ly
       .exact a7B.2 ⟨y,hy,e⟩
      .obtain⟨p,hp,rfl⟩:=a7B.1 hk;obtain⟨y,hy,e⟩:=Sk p hp;rcases a7J.1 hy with rfl|hy
       .exact absurd ⟨_,_,p,rfl,hp,e.symm⟩ GS
       .exact a7B.2 ⟨y,hy,e⟩
     have:=a9S KA uH;simp at this ⊢;omega
   .have uH:(PL.map PE.i++SL.map XE.i) ⊆ X.map (·.1):=λ k hk=>by
     rcases a7y.1 hk with hk|hk
     .obtain⟨p,hp,rfl⟩:=a7B.1 hk;obtain⟨y,hy,e⟩:=YM p hp;exact a7B.2 ⟨y,hy,e⟩
     .obtain⟨p,hp,rfl⟩:=a7B.1 hk;obtain⟨y,hy,e⟩:=Sk p hp;exact a7B.2 ⟨y,hy,e⟩
    have:=a9S KA uH;simp at this ⊢;omega
  obtain⟨fuel,rfl⟩:∃ f,fuel=f+1:=⟨fuel - 1,by omega⟩;obtain⟨k1,rl⟩:=hun;obtain⟨k0,⟨VX,o7⟩,Sy⟩:=exists_least (p:=λ k=>k<hi/\¬ (listed.getD k false=true)) k1 rl;have Ss:ops[k0]?=some (ops[k0]'(by omega)):=a8u (by omega);constructor
  .intro iu;have:k0∈Region.ready .any ops listed:=(mem_ready bW).2 ⟨_,Ss,by
    cases hb:listed.getD k0 false with
    | false=>rfl
    | true=>exact absurd hb o7,λ e he hb=>by
    have bp:=bL dv k0 ops[k0] (by simp) e he hb;exact b0i λ hh=>Sy e.on bp ⟨by omega,hh⟩⟩
   rw[iu] at this;cases this
  .intro i jy;obtain⟨o,cd,h1,h2⟩:=(mem_ready bW).1 jy;have DA:=(Array.getElem?_eq_some_iff.1 cd).1;have dR:ops.toList[i]?=some o:=by simpa using cd
   have zb:=Az (l:=ops.toList) (D:=λ k=>listed.getD k false=true/\k<ops.size) (λ k hk o' cH e he hb=>⟨xe k hk.2 hk.1 o' cH e he hb,by
    have:=bL dv k o' cH e he hb;have:=hk.2;omega⟩) i o dR (λ e he hb=>⟨h2 e he hb,by
    have:=bL dv i o dR e he hb;omega⟩)
   have oZ:i<hi:=by
    rcases a8m i hi with h|h
    .exact h
    .exact absurd (zb k0 (mX i o h dR k0 VX)).1 o7
   have zd:∀ k,(listed.setIfInBounds i true).getD k false=true↔listed.getD k false=true\/k=i:=λ k=>pc (by omega);have Sn:∀ k,k<ops.size->(listed.setIfInBounds i true).getD k false=true->∀ o,ops.toList[k]?=some o->∀ e∈o.after.toList,Region.binds .any e=true->(listed.setIfInBounds i true).getD e.on false=true:=by
    intro k hk IF o' cH e he hb;rw[zd] at IF ⊢;rcases IF with IF|rfl
    .exact .inl (xe k hk IF o' cH e he hb)
    .rw[dR] at cH;simp only[a7v] at cH;subst cH;exact .inl (h2 e he hb)
   have Zb:¬ (listed.getD i false=true):=by rw[h1];simp
   have V2:=Zb;rw[hl i DA] at V2;have hXi:i∉R->∃ x∈X,x.1=i:=λ EZ=>b0i λ hh=>V2 ⟨oZ,EZ, .inl λ x hx e=>hh ⟨x,hx,e⟩⟩;have PH:∀ p∈PL,p.i≠i:=λ p hp e=>by
    obtain⟨x,hx,hxe⟩:=YM p hp;exact V2 ⟨oZ,λ q=>GO i q x hx (by rw[hxe,e]), .inr (a7y.2 (.inl (a7B.2 ⟨p,hp,e⟩)))⟩
   have PI:∀ p∈SL,p.i≠i:=λ p hp e=>by
    obtain⟨x,hx,hxe⟩:=Sk p hp;exact V2 ⟨oZ,λ q=>GO i q x hx (by rw[hxe,e]), .inr (a7y.2 (.inr (a7B.2 ⟨p,hp,e⟩)))⟩
   have GP:(i,o)∈Seg:=by
    by_cases EZ:i∈R
    .obtain⟨_,o',cH,_,hm,_⟩:=hR i EZ;rw[dR] at cH;simp only[a7v] at cH;subst cH;exact hm
    .obtain⟨x,hx,Db⟩:=hXi EZ;have:=(hX x hx).2.1;rw[Db,dR] at this;simp only[a7v] at this;have e:x=(i,o):=by rw[<-Db,this]
     rw[<-e];exact (hX x hx).2.2
   have hg:o.guard=none:=a1f _ GP;have YL:∀ p∈PL,o.dst≠some p.d:=λ p hp e=>by
    obtain⟨o2,T,τ,r,hm,bh,E2,_⟩:=(kj p hp).ex;have hsg:=(hX _ hm).2.2;exact PH p hp (YU _ hsg _ GP p.d E2 e)
   have YN:∀ p∈SL,o.dst≠some p.d:=λ p hp e=>PI p hp (YU _ (hX _ (k9 p hp).mem).2.2 _ GP p.d (k9 p hp).dst e);have YO:∀ p∈SL,∀ t,o.dst=some t->eR [t] p.o=true:=λ p hp t ht=>by
    have hm:=hX _ (k9 p hp).mem;have Y7:listed.getD p.i false=true:=(hl p.i (by have:=hm.1;simp only at this;omega)).2 ⟨hm.1,λ q=>GO _ q _ (k9 p hp).mem rfl, .inr (a7y.2 (.inr (a7B.2 ⟨p,hp,rfl⟩)))⟩;rcases (k9 p hp).run with ⟨hex,_⟩|⟨yw,_⟩;rotate_left
    .exact Vs yw.1 _
    refine kP (YX _ hm.2.2 hex) λ u hu=>?_;simp only[a7O] at hu;subst hu;refine a7y.2 (.inl (fA.2 ⟨_,a8E.2 ⟨GP,?_⟩,ht⟩));simp only[a7V];cases hb:Nat.testBit ((bG ops.toList []).getD p.i 0) i with
    | false=>rfl
    | true=>exact absurd (Us p.i p.o (by have:=hm.1;simp only at this;omega) hm.2.1 Y7 i hb).1 Zb
   have hw:Region.wanted o (yielded ops a.tmps)=true:=by simp[Region.wanted,hg]
   unfold wpOp;simp only[cd];rw[if_pos hw];refine .inl ?_;by_cases EZ:i∈R
   ·
    obtain⟨_,o',cH,VZ,_,eN,hu⟩:=hR i EZ;rw[dR] at cH;simp only[a7v] at cH;subst cH;obtain⟨d,vc,hd,hr,dO⟩:=hs i EZ o dR;obtain⟨x,hx,hvx⟩:=NX hE hI hr dO;have hu:eR (R.filterMap (bZ ops.toList)++(PL.map PE.d++SL.map XE.d)) o=true:=kP hu λ t ht=>by
     rcases a7y.1 ht with ht|ht
     .obtain⟨j,hj,Ai⟩:=List.mem_filterMap.1 ht;obtain⟨q1,o',q2,_,q3,_⟩:=hR j hj;refine fA.2 ⟨(j,o'),List.mem_filter.2 ⟨q3,?_⟩,by simpa [bZ,q2] using Ai⟩;simp only[Bool.not_eq_true'];cases hb:Nat.testBit ((bG ops.toList []).getD i 0) j with
      | false=>rfl
      | true=>exact absurd hj ((hl j (by omega)).1 (zb j hb).1).2.1
     .obtain⟨zi,zo,hm,Sw,E2⟩:∃ zi zo,(zi,zo)∈X/\de c.E zo=true/\zo.dst=some t:=by
       rcases a7y.1 ht with ht|ht
       .obtain⟨p,hp,rfl⟩:=a7B.1 ht;obtain⟨o2,T,τ,r,hm,bh,E2,_⟩:=(kj p hp).ex;exact⟨_,o2,hm,by simp[de,lv,bh],E2⟩
       .obtain⟨p,hp,rfl⟩:=a7B.1 ht;exact⟨_,p.o,(k9 p hp).mem,(k9 p hp).lz,(k9 p hp).dst⟩
      have hsg:=(hX _ hm).2.2;by_cases hb:Nat.testBit ((bG ops.toList []).getD i 0) zi=true
      .simp only[kI,a7H,a8g,a9c,a7V] at eN;rcases eN.2 _ hsg with q|q
       .rw[zR (O3 q)] at Sw;cases Sw
       .rw[hb] at q;cases q
      .exact fA.2 ⟨_,List.mem_filter.2 ⟨hsg,by simpa using hb⟩,E2⟩
    unfold Oper.wp;rw[hA.exec hu,hx];show wpAny c.P .any ops Q' fuel _ (a.put o.dst x) w;have OH:(R.erase i).length+1=R.length:=by
     have:=a9w EZ;have:=a9B EZ;omega
    have uH:∀ t,t∈(R.erase i).filterMap (bZ ops.toList)->t∈R.filterMap (bZ ops.toList):=λ t ht=>by
     obtain⟨q,hq,hqd⟩:=a9s.1 ht;exact a9s.2 ⟨q,a9b hq,hqd⟩
    refine ih fuel Rc X (R.erase i) PL SL G t (a.put o.dst x) (b.put o.dst x) w _ (by omega) (by omega) (by rw[a8S];exact bW) (λ j hj=>?_) hX (Iz.erase i) GR (λ j hj=>GO j (a9b hj)) KA QO (λ p hp=>(kj p hp).put (YL p hp)) (λ e he=>(k9 e he).put hA.da (YN e he) (YO e he)) (λ k hk=>?_) Sn (by rw[hd];exact Xu hI hvx) (hA.put λ q hq SB=>?_) (λ j hj=>hs j (a9b hj)) _ hK
    .exact hR j (a9b hj)
    .rw[zd,hl k hk,Iz.mem_erase_iff];constructor
     .rintro (⟨q1,q2,q3⟩|rfl)
      .exact⟨q1,λ q=>q2 q.2,q3⟩
      .exact⟨oZ,λ q=>q.1 rfl, .inl λ x hx=>(GO _ EZ x hx).symm⟩
     .rintro⟨q1,q2,q3⟩;by_cases E1:k=i
      .exact .inr E1
      .exact .inl ⟨q1,λ q=>q2 ⟨E1,q⟩,q3⟩
    .rcases a7y.1 hq with hq|hq
     .obtain⟨j,hj,Ai⟩:=a9s.1 hq;by_cases qj:j=i
      .subst qj;rw[<-Ai];simp[bZ,dR]
      .exact absurd (a7y.2 (.inl (a9s.2 ⟨j,Iz.mem_erase_iff.2 ⟨qj,hj⟩,Ai⟩))) SB
     .exact absurd (a7y.2 (.inr hq)) SB
   .obtain⟨x,hx,Db⟩:=hXi EZ;have hxo:x=(i,o):=by
     have:=(hX x hx).2.1;rw[Db,dR] at this;simp only[a7v] at this;rw[<-Db,this]
    subst hxo;have hZ:∀ b,(∃ p∈PL,p.b=b)->rb c G t.ag w b:=λ b ⟨p,hp,e⟩=>e ▸ (kj p hp).fr;by_cases WX:lv o.op=true
    ·
     have KC:=Lz _ GP;obtain⟨T,bh⟩:∃ T,o.op = .alloc T:=by
      unfold lv at WX;split at WX
      .exact⟨_,by assumption⟩
      .cases WX
     unfold mM at KC;simp only[bh,Bool.and_eq_true,Option.isSome_iff_exists] at KC;obtain⟨⟨d,hd⟩,EX,⟨⟨τ,r⟩,hT⟩⟩:=KC;simp only[hd,pE,Nat.blt_eq] at EX;obtain⟨w',p,W4,hpd,hpb,cC,tZ,hpo,jz⟩:=QC hE hI (a2:=a) bh hd hT EX hx;unfold Oper.wp;rw[cC];show wpAny c.P .any ops Q' fuel _ (a.put o.dst p.x) w';rw[hd];refine ih fuel Rc X R (p::PL) SL G t (a.put (some d) p.x) b w' _ (by omega) (by simp;omega) (by rw[Array.size_setIfInBounds];exact bW) hR hX Iz GR GO ?_ ?_ (λ q hq=>?_) (λ e he=>(k9 e he).put hA.da (by rw[<-hd];exact YN e he) (by rw[<-hd];exact YO e he)) (λ k hk=>?_) Sn tZ ?_ hs _ hK
     .simp only[a8d,a8p,a8b];refine⟨λ hm=>?_,KA⟩;rcases a7y.1 hm with hm|hm
      .obtain⟨q,hq,e⟩:=a7B.1 hm;exact PH q hq (by rw[e,W4])
      .obtain⟨q,hq,e⟩:=a7B.1 hm;exact PI q hq (by rw[e,W4])
     .simp only[a8d,a8b];refine⟨λ hm=>?_,QO⟩;obtain⟨q,hq,e⟩:=a7B.1 hm;have:=(kj q hq).fr.2.2.1;rw[e,hpb] at this;exact b0g _ this
     .rcases a7J.1 hq with rfl|hq
      .exact hpo
      .have h3:=(kj q hq).put (d:=some d) (x:=p.x) (by rw[<-hd];exact YL q hq);have bp:=h3.fr.2.2.1;refine⟨h3.ex,h3.val,h3.ptr,h3.lt,?_,h3.fr.grow jz.size⟩;obtain⟨l,ty,q1,q2⟩:=h3.new;exact⟨l,ty,by rw[jz.block q.b bp (λ h=>h)];exact q1,q2⟩
     .rw[zd,hl k hk,a8d,a8p,a7J,W4];constructor
      .rintro (⟨q1,q2,q3⟩|rfl)
       .exact⟨q1,q2,q3.imp id .inr⟩
       .exact⟨oZ,EZ, .inr (.inl rfl)⟩
      .rintro⟨q1,q2,q3⟩;by_cases E1:k=i
       .exact .inr E1
       .exact .inl ⟨q1,q2,q3.imp id λ q=>q.resolve_left E1⟩
     .refine⟨by rw[fF];exact hA.size,by rw[im];exact hA.da,hA.db,λ u hu=>?_⟩;simp only[List.map_cons,List.cons_append,List.mem_append,List.mem_cons,hpd] at hu;rw[dQ,if_neg (λ q=>hu (.inr (.inl (by simpa using q.1.symm))))];exact hA.at' u λ hm=>hu ((List.mem_append.1 hm).imp id λ q => .inr (List.mem_append.1 q))
    by_cases hex:iI o.op=true
    ·
     obtain⟨tt,ix,bh⟩:∃ tt ix,o.op = .extract tt ix:=by
      have:=hex;unfold iI at this;split at this
      .exact⟨_,_,by assumption⟩
      .cases this
     have a5D:uA t o.op=true:=by
      obtain⟨x0,xs,rfl⟩:∃ x0 xs,X=x0::xs:=by
       cases X with
       | nil=>cases hx
       | cons x0 xs=>exact⟨x0,xs,rfl⟩
      obtain⟨_,h3,_⟩:=Fj hK;unfold Ri at h3;rw[List.all_eq_true] at h3;have h4:=h3 _ hx;rw[Bool.or_eq_true] at h4;rcases h4 with h4|h4
      .exact h4
      .rw[b1d] at h4;obtain⟨y,hy,h4⟩:=h4;rw[a7H,a7V] at h4;have h5:=(zb y.1 h4.2).1;have h6:=(hX y hy).1;rcases ((hl y.1 (by omega)).1 h5).2.2 with h7|h7
       .exact absurd rfl (h7 y hy)
       .have hyl:de c.E y.2=true:=by
         have e0:=(hX y hy).2.1;rcases a7y.1 h7 with h7|h7
         .obtain⟨p,hp,e⟩:=a7B.1 h7;obtain⟨o2,T,τ,r,hm,MY,E2,_⟩:=(kj p hp).ex;have e1:=(hX _ hm).2.1;simp only at e1;rw[e,e0] at e1;simp only[a7v] at e1;rw[e1];simp[de,lv,MY]
         .obtain⟨p,hp,e⟩:=a7B.1 h7;have e1:=(hX _ (k9 p hp).mem).2.1;simp only at e1;rw[e,e0] at e1;simp only[a7v] at e1;rw[e1];simp[(k9 p hp).lz]
        rw[hyl] at h4;exact absurd h4.1 (by simp)
     obtain⟨x,cC⟩:=QG hI bh a5D;have KC:=YX _ GP hex;obtain⟨d,hd⟩:∃ d,o.dst=some d:=by
      have:=Lz _ GP;simp only[mM,bh,Option.isSome_iff_exists] at this;exact this
     have hDu:∀ u,u∈R.filterMap (bZ ops.toList)++(PL.map PE.d++SL.map XE.d)->u∈dstsOf (Seg.filter λ y => !Nat.testBit ((bG ops.toList []).getD i 0) y.1)++oM c.E Seg:=λ u hu=>by
      rcases a7y.1 hu with hu|hu
      .obtain⟨j,hj,Ai⟩:=List.mem_filterMap.1 hu;obtain⟨q1,o',q2,_,q3,_⟩:=hR j hj;refine List.mem_append.2 (.inl (fA.2 ⟨(j,o'),List.mem_filter.2 ⟨q3,?_⟩,by simpa [bZ,q2] using Ai⟩));simp only[Bool.not_eq_true'];cases hb:Nat.testBit ((bG ops.toList []).getD i 0) j with
       | false=>rfl
       | true=>exact absurd hj ((hl j (by omega)).1 (zb j hb).1).2.1
      .rcases a7y.1 hu with hu|hu
       .obtain⟨p,hp,rfl⟩:=a7B.1 hu;obtain⟨o2,T,τ,r,hm,MY,E2,_⟩:=(kj p hp).ex;exact a7y.2 (.inr (jM c.E (hX _ hm).2.2 (by simp[de,lv,MY]) E2))
       .obtain⟨q,hq,rfl⟩:=a7B.1 hu;exact a7y.2 (.inr (jM c.E (hX _ (k9 q hq).mem).2.2 (k9 q hq).lz (k9 q hq).dst))
     have Zh:∀ w',(execOp a.eval o).run c.P w' = .ok (.value x) w':=λ w'=>by
      rw[hA.exec (kP KC hDu)];exact cC w'
     have a3E:eR [d] o=true:=kP KC λ u hu=>by
      simp only[a7O] at hu;subst hu;exact a7y.2 (.inr (jM c.E GP (by simp[de,hex]) hd))
     unfold Oper.wp;rw[Zh w];show wpAny c.P .any ops Q' fuel _ (a.put o.dst x) w;rw[hd];refine ih fuel Rc X R PL (⟨i,d,x,o⟩::SL) G t (a.put (some d) x) b w _ (by omega) (by simp;omega) (by rw[Array.size_setIfInBounds];exact bW) hR hX Iz GR GO ?_ QO (λ q hq=>(kj q hq).put (by rw[<-hd];exact YL q hq)) (λ e he=>?_) (λ k hk=>?_) Sn hI ?_ hs _ hK
     .rw[a8d];refine (b1e.nodup_iff).2 (a8b.2 ⟨λ hm=>?_,KA⟩);rcases a7y.1 hm with hm|hm
      .obtain⟨q,hq,e⟩:=a7B.1 hm;exact PH q hq e
      .obtain⟨q,hq,e⟩:=a7B.1 hm;exact PI q hq e
     .rcases a7J.1 he with rfl|he
      .refine⟨hx,hd,?_, .inl ⟨hex,λ w'=>?_⟩⟩
       .simp only[dQ,fF,a8Y];split
        .rfl
        .rename_i bp;first|rfl|(rw[a8h,a8P (by omega)];rfl)
       .have YH:kW [d] (a.put (some d) x) a:=⟨fF a _ x,by rw[im];exact hA.da,hA.da,λ u hu=>by rw[dQ,if_neg (λ q=>hu (by simpa using q.1.symm))]⟩;show (execOp (a.put (some d) x).eval o).run c.P w'=_;rw[YH.exec a3E];exact Zh w'
      .exact (k9 e he).put hA.da (by rw[<-hd];exact YN e he) (by rw[<-hd];exact YO e he)
     .rw[zd,hl k hk,a8d];constructor
      .rintro (⟨q1,q2,q3⟩|rfl)
       .refine⟨q1,q2,q3.imp (λ q=>q) λ q=>?_⟩;rcases a7y.1 q with q|q
        .exact a7y.2 (.inl q)
        .exact a7y.2 (.inr (a8y _ q))
       .exact⟨oZ,EZ, .inr (a7y.2 (.inr (a9D ..)))⟩
      .rintro⟨q1,q2,q3⟩;by_cases E1:k=i
       .exact .inr E1
       .refine .inl ⟨q1,q2,q3.imp (λ q=>q) λ q=>?_⟩;rcases a7y.1 q with q|q
        .exact a7y.2 (.inl q)
        .exact a7y.2 (.inr ((a7J.1 q).resolve_left E1))
     .refine⟨by rw[fF];exact hA.size,by rw[im];exact hA.da,hA.db,λ u hu=>?_⟩;simp only[List.map_cons,List.mem_append,List.mem_cons] at hu;rw[dQ,if_neg (λ q=>hu (.inr (.inr (.inl (by simpa using q.1.symm)))))];exact hA.at' u λ hm=>hu ((List.mem_append.1 hm).imp (λ q=>q) λ q=>(List.mem_append.1 q).imp (λ q=>q) .inr)
    by_cases yw:rn o.op=true/\BV c.E o=true
    ·
     have KC:=Lz _ GP;obtain⟨d,hd⟩:∃ d,o.dst=some d:=by
      obtain⟨T,bh⟩:=Hn yw.1;unfold mM at KC;rw[bh,yw.2] at KC;cases hd:o.dst with
      | some d=>exact⟨d,rfl⟩
      | none=>rw[hd] at KC;simp at KC
     obtain⟨w',x,cC,tZ,Q7,jz⟩:=Sa hE hI (a2:=a) yw KC hd;unfold Oper.wp;rw[cC];show wpAny c.P .any ops Q' fuel _ (a.put o.dst x) w';rw[hd];refine ih fuel Rc X R PL (⟨i,d,x,o⟩::SL) G t (a.put (some d) x) b w' _ (by omega) (by simp;omega) (by rw[Array.size_setIfInBounds];exact bW) hR hX Iz GR GO ?_ QO (λ q hq=>?_) (λ e he=>?_) (λ k hk=>?_) Sn tZ ?_ hs _ hK
     .rw[a8d];refine (b1e.nodup_iff).2 (a8b.2 ⟨λ hm=>?_,KA⟩);rcases a7y.1 hm with hm|hm
      .obtain⟨q,hq,e⟩:=a7B.1 hm;exact PH q hq e
      .obtain⟨q,hq,e⟩:=a7B.1 hm;exact PI q hq e
     .have h3:=(kj q hq).put (d:=some d) (x:=x) (by rw[<-hd];exact YL q hq);have bp:=h3.fr.2.2.1;refine⟨h3.ex,h3.val,h3.ptr,h3.lt,?_,h3.fr.grow jz.size⟩;obtain⟨l,ty,q1,q2⟩:=h3.new;exact⟨l,ty,by rw[jz.block q.b bp (λ h=>h)];exact q1,q2⟩
     .rcases a7J.1 he with rfl|he
      .refine⟨hx,hd,?_, .inr ⟨yw,Q7⟩⟩;simp only[dQ,fF,a8Y];split
       .rfl
       .rename_i bp;first|rfl|(rw[a8h,a8P (by omega)];rfl)
      .exact (k9 e he).put hA.da (by rw[<-hd];exact YN e he) (by rw[<-hd];exact YO e he)
     .rw[zd,hl k hk,a8d];constructor
      .rintro (⟨q1,q2,q3⟩|rfl)
       .refine⟨q1,q2,q3.imp (λ q=>q) λ q=>?_⟩;rcases a7y.1 q with q|q
        .exact a7y.2 (.inl q)
        .exact a7y.2 (.inr (a8y _ q))
       .exact⟨oZ,EZ, .inr (a7y.2 (.inr (a9D ..)))⟩
      .rintro⟨q1,q2,q3⟩;by_cases E1:k=i
       .exact .inr E1
       .refine .inl ⟨q1,q2,q3.imp (λ q=>q) λ q=>?_⟩;rcases a7y.1 q with q|q
        .exact a7y.2 (.inl q)
        .exact a7y.2 (.inr ((a7J.1 q).resolve_left E1))
     .refine⟨by rw[fF];exact hA.size,by rw[im];exact hA.da,hA.db,λ u hu=>?_⟩;simp only[List.map_cons,List.mem_append,List.mem_cons] at hu;rw[dQ,if_neg (λ q=>hu (.inr (.inr (.inl (by simpa using q.1.symm)))))];exact hA.at' u λ hm=>hu ((List.mem_append.1 hm).imp (λ q=>q) λ q=>(List.mem_append.1 q).imp (λ q=>q) .inr)
    ·
     have a5T:de c.E o=false:=by
      simp only[de,Bool.or_eq_false_iff];exact⟨by simpa using WX,by simpa using hex,by
       cases q1:rn o.op
       .rfl
       .cases q2:BV c.E o
        .rfl
        .exact absurd ⟨q1,q2⟩ yw⟩
     have Sw:∀ z∈X,Nat.testBit ((bG ops.toList []).getD i 0) z.1=true->de c.E z.2=true/\z.1∈PL.map PE.i++SL.map XE.i:=λ z hz hb=>by
      have h3:=(zb z.1 hb).1;have h4:=(hX z hz).1;rcases ((hl z.1 (by omega)).1 h3).2.2 with h5|h5
      .exact absurd rfl (h5 z hz)
      .refine⟨?_,h5⟩;have e0:=(hX z hz).2.1;rcases a7y.1 h5 with h7|h7
       .obtain⟨p,hp,e⟩:=a7B.1 h7;obtain⟨o2,T,τ,r,hm,MY,E2,_⟩:=(kj p hp).ex;have e1:=(hX _ hm).2.1;simp only at e1;rw[e,e0] at e1;simp only[a7v] at e1;rw[e1];simp[de,lv,MY]
       .obtain⟨p,hp,e⟩:=a7B.1 h7;have e1:=(hX _ (k9 p hp).mem).2.1;simp only at e1;rw[e,e0] at e1;simp only[a7v] at e1;rw[e1];exact (k9 p hp).lz
     obtain⟨mm,hu0,hK⟩:=US (y:=(i,o)) hK hx GR (by
      simp only[Mi,a5T,a8s,b0u,a8g,a9c,a7V];intro z hz;cases hb:Nat.testBit ((bG ops.toList []).getD i 0) z.1 with
      | false=>exact .inr rfl
      | true=>exact .inl (Sw z hz hb).1) (λ x0 xs e hz=>by
      cases hb:Nat.testBit ((bG ops.toList []).getD i 0) x0.1 with
      | false=>rfl
      | true =>
       rcases a7y.1 (Sw x0 (by rw[e];simp) hb).2 with h5|h5
       .obtain⟨p,hp,e'⟩:=a7B.1 h5;exact absurd ⟨x0,xs,p,e,hp,e'⟩ Ly
       .obtain⟨p,hp,e'⟩:=a7B.1 h5;exact absurd ⟨x0,xs,p,e,hp,e'⟩ GS)
     have Zm:∀ z,z∈X->z.1≠i->z∈X.filter λ z => !Nat.beq z.1 i:=λ z hz dm=>List.mem_filter.2 ⟨hz,by rw[V8.2 dm];rfl⟩;have V4:∀ z,z∈(X.filter λ z => !Nat.beq z.1 i)->z∈X/\z.1≠i:=λ z hz=>⟨(List.mem_filter.1 hz).1,V8.1 (by simpa using (List.mem_filter.1 hz).2)⟩;have qk:(X.filter λ z => !Nat.beq z.1 i).length+1=X.length:=Pz hx GR;generalize jJ:(X.filter λ z => !Nat.beq z.1 i)=xs at *
     have hxn:(xs.map (·.1)).Nodup:=by rw[<-jJ];exact GR.sublist (b0d _ b1H)
     .simp only at hu0 hK;have ff:∀ j∈R,∃ o',ops.toList[j]?=some o'/\(j,o')∈Rc.filter λ r => !Nat.testBit ((bG ops.toList []).getD i 0) r.1:=λ j hj=>by
       obtain⟨q1,o',q2,q3,_,_⟩:=hR j hj;refine⟨o',q2,a8E.2 ⟨q3,?_⟩⟩;simp only[a7V];cases hb:Nat.testBit ((bG ops.toList []).getD i 0) j with
       | false=>rfl
       | true=>exact absurd hj ((hl j (by omega)).1 (zb j hb).1).2.1
      have hu:eR (R.filterMap (bZ ops.toList)++(PL.map PE.d++SL.map XE.d)) o=true:=kP hu0 λ t ht=>by
       rcases a7y.1 ht with ht|ht
       .obtain⟨j,hj,Ai⟩:=List.mem_filterMap.1 ht;obtain⟨o',q2,q3⟩:=ff j hj;exact List.mem_append.2 (.inl (fA.2 ⟨(j,o'),q3,by simpa [bZ,q2] using Ai⟩))
       .rcases a7y.1 ht with ht|ht
        .obtain⟨p,hp,rfl⟩:=a7B.1 ht;obtain⟨o2,T,τ,r,hm,bh,E2,_⟩:=(kj p hp).ex;exact a7y.2 (.inr (jM c.E (Zm _ hm (PH p hp)) (by simp[de,lv,bh]) E2))
        .obtain⟨p,hp,rfl⟩:=a7B.1 ht;exact a7y.2 (.inr (jM c.E (Zm _ (k9 p hp).mem (PI p hp)) ((k9 p hp).lz) (k9 p hp).dst))
      have hIz:=hI.fz hZ;refine XI (hA.exec hu) ?_ ?_ (HC (c:=c.fz w G.S λ b=>∃ p∈PL,p.b=b) hE hIz hK (Q:=λ _ _ _=>False))
      .rintro x w' ⟨G',s',a5s,hsr⟩;obtain⟨tZ,iG⟩:=hI.a6q hZ a5s;obtain⟨k1,k2⟩:=iX hsr;refine ih fuel _ xs R PL SL G' s' (a.put o.dst x) (b.put o.dst x) w' _ (by omega) (by omega) (by rw[a8S];exact bW) (λ j hj=>?_) (λ y hy=>hX y (V4 y hy).1) Iz hxn (λ j hj y hy=>GO j hj y (V4 y hy).1) KA QO (λ p hp=>?_) (λ e he=>?_) (λ k hk=>?_) Sn tZ (hA.put λ q hq SB=>absurd hq SB) (λ j hj o' cH=>?_) _ k2
       .obtain⟨q1,o',q2,q3,q4,q7⟩:=hR j hj;obtain⟨o2,q5,q6⟩:=ff j hj;have e:o'=o2:=by rw[q2] at q5;simpa using q5
        subst e;exact⟨q1,o',q2,q6,q4,q7⟩
       .have h3:=(kj p hp).put (d:=o.dst) (x:=x) (YL p hp);obtain⟨e1,e2⟩:=iG p.b ⟨p,hp,rfl⟩;refine⟨?_,h3.val,h3.ptr,h3.lt,?_,e2⟩
        .obtain⟨o2,T,τ,r,hm,m2,m3,m4,m5⟩:=h3.ex;exact⟨o2,T,τ,r,Zm _ hm (PH p hp),m2,m3,m4,m5⟩
        .obtain⟨l,ty,q1,q2⟩:=h3.new;exact⟨l,ty,by rw[e1];exact q1,q2⟩
       .have h3:=(k9 e he).put (x:=x) hA.da (YN e he) (YO e he);exact⟨Zm _ h3.mem (PI e he),h3.dst,h3.val,h3.run⟩
       .rw[zd,hl k hk];constructor
        .rintro (⟨q1,q2,q3⟩|rfl)
         .exact⟨q1,q2,q3.imp (λ q y hy=>q y (V4 y hy).1) λ q=>q⟩
         .exact⟨oZ,EZ, .inl λ y hy e=>(V4 y hy).2 e⟩
        .rintro⟨q1,q2,q3⟩;by_cases E1:k=i
         .exact .inr E1
         .refine .inl ⟨q1,q2,q3.imp (λ q y hy=>?_) λ q=>q⟩;by_cases e:y.1=i
          .rw[e];exact b1P E1
          .exact q y (Zm y hy e)
       .obtain⟨o2,q5,q6⟩:=ff j hj;rw[q5] at cH;simp only[a7v] at cH;subst cH;exact k1 (j,o2) q6
      .rintro b' w' ⟨G',s',tZ,_⟩;exact tZ.defers
end
theorem uK{bM:List Nat}{p:Nat}(h:Na bM p=true){j k:Nat}(hj:p<=j)(hl:j<bM.length)(hk:k<p):Nat.testBit (bM.getD j 0) k=true:=by
 unfold Na at h;rw[List.all_eq_true] at h;have hm:bM[j]∈bM.drop p:=by
  rw[List.mem_iff_getElem?];refine⟨j - p,?_⟩;rw[a9C,show p+(j - p)=j by omega,a7L hl]
 have h1:=Nat.eq_of_beq_eq_true (h _ hm);rw[List.getD_eq_getElem?_getD,List.getElem?_eq_getElem hl,Option.getD_some];have h2:Nat.testBit (bM[j] % 2 ^ p) k=true:=by rw[h1,Nat.testBit_two_pow_sub_one];simpa using hk
 rw[Nat.testBit_mod_two_pow] at h2;simp only[a7H] at h2;exact h2.2
theorem P4{l:List Oper}{es:List H0}{lo m bits:Nat}{s0:ah}{π π':List Nat}(mY:∀ j k t,lo<=j->j<m->lo<=k->k<m->bZ l j=some t->bZ l k=some t->j=k)
  (UK:∀ k∈π,lo<=k/\k<m) (M7:∀ k∈π',lo<=k/\k<m) (hn:π.Nodup) (rm:π'.Nodup) (ha:∀ k,lo<=k->k<m->Nat.testBit bits k=true->k∈π/\k∈π') (t:Nat) (hh:hidden l m bits t=false) :
  (dz l es s0 π).sl t=(dz l es s0 π').sl t/\(dz l es s0 π).ag t=(dz l es s0 π').ag t:=by
 by_cases hex:∃ k,lo<=k/\k<m/\bZ l k=some t
 .obtain⟨k,bP,hk,hd⟩:=hex;have hb:Nat.testBit bits k=true:=by
   have:=hh;unfold hidden at this;rw[List.any_eq_false] at this;have:=this k (by simpa using hk);simp only[hd] at this;simp only[Nat.beq_refl] at this;simpa using this
  obtain⟨h1,h2⟩:=ha k bP hk hb;obtain⟨e1,e2⟩:=tN l es t k hd π s0 h1 hn (λ j hj dm Ai=>dm (mY j k t (UK j hj).1 (UK j hj).2 bP hk Ai hd));obtain⟨e3,e4⟩:=tN l es t k hd π' s0 h2 rm (λ j hj dm Ai=>dm (mY j k t (M7 j hj).1 (M7 j hj).2 bP hk Ai hd));exact⟨e1.trans e3.symm,e2.trans e4.symm⟩
 .have gZ:∀ k,lo<=k->k<m->bZ l k≠some t:=λ k hl hk hd=>hex ⟨k,hl,hk,hd⟩;obtain⟨e1,e2⟩:=fC l es t π s0 (λ k hk=>gZ k (UK k hk).1 (UK k hk).2);obtain⟨e3,e4⟩:=fC l es t π' s0 (λ k hk=>gZ k (M7 k hk).1 (M7 k hk).2);exact⟨e1.trans e3.symm,e2.trans e4.symm⟩
def eG(lo i:Nat):List Nat:=List.range' lo (i - lo)
theorem xM{lo i k:Nat}:k∈eG lo i↔lo<=k/\k<i:=by
 unfold eG;rw[List.mem_range'_1];omega
theorem Fu(lo i:Nat):(eG lo i).Nodup:=List.nodup_range'
theorem Xw{lo i:Nat}(h:lo<=i):eG lo (i+1)=eG lo i++[i]:=by
 unfold eG;rw[show i+1 - lo=(i - lo)+1 by omega,List.range'_1_concat,show lo+(i - lo)=i by omega]
theorem On{E:Env}{l:List Oper}{m lo:Nat}{bM:List Nat}{s0:ah}:∀ (r:List Oper) (i:Nat) (es vO:List H0) (s s':ah),Trace E l m bM i r es s s'->(∀ j o,r[j]?=some o->l[i+j]?=some o)->vO.length=i->lo<=i ->
  s=dz l (vO++es) s0 (eG lo i) ->
  (∀ j o,r[j]?=some o->LP E l m (bM.getD (i+j) 0) (dz l (vO++es) s0 (eG lo (i+j))) o ((vO++es).getD (i+j) ⟨false, .any,none⟩))/\s'=dz l (vO++es) s0 (eG lo (i+r.length))
 | [],i,[],vO,s,s',h,_,_,_,hs=>by
  have h:s=s':=h;subst h;exact⟨by simp,by simpa using hs⟩
 | o::r,i,e::es,vO,s,s',h,hl,h0,hlo,hs=>by
  obtain⟨h1,h2⟩:=h;have ho:l[i]?=some o:=hl 0 o rfl;have J2:(vO++e::es).getD i ⟨false, .any,none⟩=e:=by simp[a7G,<-h0]
  have bU:s.hU o.dst e.v e.ob=dz l ((vO++[e])++es) s0 (eG lo (i+1)):=by
   rw[a8c,Xw hlo,rK,a9Z,J2,<-hs];simp[bZ,ho]
  have ih:=On r (i+1) es (vO++[e]) _ s' h2 (λ j p hj=>by
   have:=hl (j+1) p (by simpa using hj);rwa [show i+(j+1)=i+1+j by omega] at this) (by simp[h0]) (by omega) bU
  rw[a8c,a9Z] at ih;refine⟨λ j p hj=>?_,by rw[ih.2];congr 2;simp;omega⟩;cases j with
  | zero =>
   simp at hj;subst hj;rw[a9u,J2,<-hs];exact h1
  | succ j =>
   have:=ih.1 j p (by simpa using hj);rwa [show i+1+j=i+(j+1) by omega] at this
 | [],_,_::_,_,_,_,h,_,_,_,_=>h.elim
 | _::_,_,[],_,_,_,h,_,_,_,_=>h.elim
theorem NH:∀ (l π:List Nat),l.Nodup->(∀ k∈l,k∈π)->l.length<=π.length
 | [],_,_,_=>by simp
 | x::l,π,hn,h=>by
  have rm:=a8b.1 hn;have hx:=h x (by simp);have h1:=NH l (π.erase x) rm.2 (λ k hk=>by
   have dm:k≠x:=λ e=>by subst e;exact rm.1 hk
   exact (a9J dm).2 (h k (by simp[hk])))
  have h3:=a9w hx;have:0<π.length:=a9B hx;simp only[a7I];omega
theorem NG{lo m:Nat}(π:List Nat)(hn:π.Nodup)(h:∀ k∈π,lo<=k/\k<m):π.length<=m - lo:=by
 have h1:(List.range lo++π).Nodup:=by
  rw[a7Q];refine⟨b1a,hn,λ x hx y hy e=>?_⟩;simp at hx;have:=(h y hy).1;omega
 have h2:=rH (max lo m) (List.range lo++π) h1 (λ k hk=>by
  rcases a7y.1 hk with hk|hk
  .simp at hk;omega
  .have:=(h k hk).2;omega)
 rw[a7K,List.length_range] at h2;cases π with
 | nil=>simp
 | cons k r =>
  have:=h k (by simp);omega
section
variable {c:Ctx} {G:Gh} {s:ah} {a:Act} {w w':World}
theorem ZR(hE:bo c.P c.E){ops:Array Oper}{j:Nat}(dv:backward ops.toList=true)(hj:j<ops.size)(hcut:∀ i,j<i->i<ops.size->Nat.testBit ((bG ops.toList []).getD i 0) j=true)
  {P:ah->Prop} {Q':Exit->Act->World->Prop} {fuel:Nat} {kn:List (Nat×Bool)} {listed:Array Bool} (bW:listed.size=ops.size) (hl:∀ k,k<ops.size->(listed.getD k false=true↔k<j))
  (hI:Inv c G s a w) (hr:eB c.E ops [ops[j]] kn P s)
  (sN:∀ G s a w (listed:Array Bool),listed.size=ops.size->(∀ k,k<ops.size->(listed.getD k false=true↔k<j+1))->Inv c G s a w->P s->wpAny c.P .any ops Q' fuel listed a w):wpAny c.P .any ops Q' (fuel+1) listed a w:=by
 have ho:ops[j]?=some ops[j]:=a8u hj;constructor
 .intro iu;have:j∈Region.ready .any ops listed:=(mem_ready bW).2 ⟨_,ho,by
   cases hb:listed.getD j false with
   | false=>rfl
   | true=>have:=(hl j hj).1 hb;omega,λ e he hb=>by
   have:=bL dv j ops[j] (by simp) e he hb;exact (hl e.on (by omega)).2 this⟩
  rw[iu] at this;cases this
 .intro i hi;obtain⟨o,cd,h1,h2⟩:=(mem_ready bW).1 hi;have DA:=(a8V.1 cd).1;have QX:j<=i:=by
   rcases a8m i j with h|h
   .have:=(hl i DA).2 h;rw[h1] at this;cases this
   .exact h
  have qi:i=j:=by
   rcases a8m j i with h|h
   .have ff:=Az (l:=ops.toList) (D:=λ k=>k<j) (λ k hk o' cH e he hb=>by
     have:=bL dv k o' cH e he hb;omega) i o (by simpa using cd) (λ e he hb=>by
      have bp:=bL dv i o (by simpa using cd) e he hb;exact (hl e.on (by omega)).1 (h2 e he hb)) j (hcut i h DA)
    omega
   .omega
  subst qi;have zd:∀ k,k<ops.size->((listed.setIfInBounds i true).getD k false=true↔k<i+1):=λ k hk=>by
   rw[pc (by omega),hl k hk];omega
  unfold wpOp;simp only[ho];have sQ:=x7 hE hI hr;split at sQ
  .rename_i hw;rw[a7E hw];exact .inl (a8X (λ a' w' ⟨G',s',mj,h1,h2⟩=>sN G' s' a' w' _ (by rw[a8S];exact bW) zd h1 h2) (sQ Q'))
  .rename_i hw;rw[a7z hw];obtain⟨G',s',mj,h1,h2⟩:=sQ;exact sN G' s' _ w _ (by rw[a8S];exact bW) zd h1 h2
theorem X0(hE:bo c.P c.E){ops:Array Oper}{lo m:Nat}{es:List H0}{s0:ah}(dv:backward ops.toList=true)(hm:m<=ops.size)
  (mX:∀ j o,m<=j->ops.toList[j]?=some o->∀ k,k<m->Nat.testBit ((bG ops.toList []).getD j 0) k=true)
  (a5R:∀ j o,lo<=j->ops.toList[j]?=some o->∀ k,k<lo->Nat.testBit ((bG ops.toList []).getD j 0) k=true)
  (mY:∀ j k t,lo<=j->j<m->k<m->bZ ops.toList j=some t->bZ ops.toList k=some t->j=k)
  (YW:∀ i o,lo<=i->i<m->ops.toList[i]?=some o->LP c.E ops.toList m ((bG ops.toList []).getD i 0) (dz ops.toList es s0 (eG lo i)) o (es.getD i ⟨false, .any,none⟩))
  (EX:∀ i o,lo<=i->i<m->ops.toList[i]?=some o->pE o.dst=true) (oj:∀ i o t,lo<=i->i<m->ops.toList[i]?=some o->sb o.op=true->o.dst=some t->s0.ag t=none)
  {Q':Exit->Act->World->Prop}
  (MT:∀ (fuel:Nat) (G:Gh) (a:Act) (w:World) (listed:Array Bool),ops.size=m+fuel->listed.size=ops.size->(∀ k,k<ops.size->(listed.getD k false=true↔k<m))->Inv c G (dz ops.toList es s0 (eG lo m)) a w->wpAny c.P .any ops Q' fuel listed a w) :
  ∀ (fuel:Nat) (π:List Nat) (G:Gh) (a:Act) (w:World) (listed:Array Bool),ops.size=lo+π.length+fuel->π.Nodup->(∀ k∈π,lo<=k/\k<m)->listed.size=ops.size->(∀ k,k<ops.size->(listed.getD k false=true↔k<lo\/k∈π)) ->
   (∀ k∈π,∀ o,ops.toList[k]?=some o->∀ e∈o.after.toList,Region.binds .any e=true->e.on<lo\/e.on∈π)->lo<=m->Inv c G (dz ops.toList es s0 π) a w->wpAny c.P .any ops Q' fuel listed a w:=by
 have YV:∀ j k t,lo<=j->j<m->lo<=k->k<m->bZ ops.toList j=some t->bZ ops.toList k=some t->j=k:=λ j k t h1 h2 _ h4=>mY j k t h1 h2 h4;have fin:∀ (fuel:Nat) (π:List Nat) (G:Gh) (a:Act) (w:World) (listed:Array Bool),ops.size=lo+π.length+fuel->π.Nodup->(∀ k∈π,lo<=k/\k<m)->listed.size=ops.size->(∀ k,k<ops.size->(listed.getD k false=true↔k<lo\/k∈π)) ->
   lo<=m->(∀ k,lo<=k->k<m->k∈π)->Inv c G (dz ops.toList es s0 π) a w->wpAny c.P .any ops Q' fuel listed a w:=by
  intro fuel π G a w listed hf hn bp bW hl Q0 fT hI;have hlen:=NG π hn bp;have QX:m - lo<=π.length:=by
   have h2:(eG lo m).length<=π.length:=NH (eG lo m) π (Fu lo m) λ k hk=>fT k (xM.1 hk).1 (xM.1 hk).2;simpa [eG] using h2
  have heq:∀ t,(dz ops.toList es s0 π).sl t=(dz ops.toList es s0 (eG lo m)).sl t/\(dz ops.toList es s0 π).ag t=(dz ops.toList es s0 (eG lo m)).ag t:=λ t =>
   P4 (bits:=2 ^ m - 1) YV bp (λ k hk=>xM.1 hk) hn (Fu lo m) (λ k bP hk _=>⟨fT k bP hk,xM.2 ⟨bP,hk⟩⟩) t (by
    unfold hidden;rw[List.any_eq_false];intro k hk;simp only[List.mem_range] at hk;split
    .split
     .simp[b0a,hk]
     .simp
    .simp)
  refine MT fuel G a w listed (by omega) bW (λ k hk=>?_) ?_
  .rw[hl k hk];constructor
   .rintro (h|h)
    .omega
    .exact (bp k h).2
   .intro h;rcases a8m k lo with h'|h'
    .exact .inl h'
    .exact .inr (fT k h' h)
  .unfold Inv at hI ⊢;rw[Hh] at hI ⊢;rw[<-funext λ t=>(heq t).1,<-funext λ t=>(heq t).2];exact hI
 intro fuel;induction fuel with
 | zero =>
  intro π G a w listed hf hn bp bW hl sM Q0 hI;refine fin 0 π G a w listed hf hn bp bW hl Q0 (λ k bP hk=>?_) hI;cases hb:decide (k∈π) with
  | true=>exact a7Z hb
  | false =>
   have:=NG (lo:=lo) (m:=m) (k::π) (a8b.2 ⟨b0m hb,hn⟩) (λ j hj=>by
    rcases a7J.1 hj with rfl|hj
    .exact⟨bP,hk⟩
    .exact bp j hj)
   simp at this;omega
 | succ fuel ih =>
  intro π G a w listed hf hn bp bW hl sM Q0 hI;by_cases fT:∀ k,lo<=k->k<m->k∈π
  .exact fin (fuel+1) π G a w listed hf hn bp bW hl Q0 fT hI
  ·
   have hex:∃ k,lo<=k/\k<m/\k∉π/\∀ j,lo<=j->j<k->j∈π:=by
    have:∀ n,(∃ k,k<n/\lo<=k/\k<m/\k∉π)->∃ k,lo<=k/\k<m/\k∉π/\∀ j,lo<=j->j<k->j∈π:=by
     intro n;induction n with
     | zero=>rintro⟨k,hk,_⟩;omega
     | succ n UM =>
      rintro⟨k,hk,IF,hkm,jz⟩;by_cases hs:∃ k,k<n/\lo<=k/\k<m/\k∉π
      .exact UM hs
      .refine⟨k,IF,hkm,jz,λ j Y3 hj=>?_⟩;cases hb:decide (j∈π) with
       | true=>exact a7Z hb
       | false=>exact absurd ⟨j,by omega,Y3,by omega,b0m hb⟩ hs
    refine this m ?_;obtain⟨k,hk⟩:=b0A.1 fT;have h2:=b0r.1 hk;have h3:=b0r.1 h2.2;exact⟨k,h3.1,h2.1,h3.1,h3.2⟩
   obtain⟨k0,a7o,VX,o7,Sy⟩:=hex;have Ss:ops[k0]?=some (ops[k0]'(by omega)):=a8u (by omega);constructor
   .intro iu;have:k0∈Region.ready .any ops listed:=(mem_ready bW).2 ⟨_,Ss,by
     cases hb:listed.getD k0 false with
     | false=>rfl
     | true =>
      rcases (hl k0 (by omega)).1 hb with h|h
      .omega
      .exact absurd h o7,λ e he hb=>by
     have J4:=bL dv k0 ops[k0] (by simp) e he hb;refine (hl e.on (by omega)).2 ?_;rcases a8m e.on lo with h|h
     .exact .inl h
     .exact .inr (Sy e.on h J4)⟩
    rw[iu] at this;cases this
   .intro i hi;obtain⟨o,cd,h1,h2⟩:=(mem_ready bW).1 hi;have DA:=(Array.getElem?_eq_some_iff.1 cd).1;have dR:ops.toList[i]?=some o:=by simpa using cd
    have yw:¬ (i<lo\/i∈π):=λ hh=>by
     have:=(hl i DA).2 hh;rw[h1] at this;cases this
    have rj:i∉π:=λ h=>yw (.inr h);have hil:lo<=i:=by
     rcases a8m i lo with h|h
     .exact absurd (.inl h) yw
     .exact h
    have MS:∀ e∈o.after.toList,Region.binds .any e=true->e.on<lo\/e.on∈π:=λ e he hb=>by
     have J4:=bL dv i o dR e he hb;exact (hl e.on (by omega)).1 (h2 e he hb)
    have zb:=Az (l:=ops.toList) (D:=λ k=>k<lo\/k∈π) (λ k hk o' cH e he hb=>by
     rcases hk with hk|hk
     .have:=bL dv k o' cH e he hb;exact .inl (by omega)
     .exact sM k hk o' cH e he hb) i o dR MS
    have oZ:i<m:=by
     rcases a8m i m with h|h
     .exact h
     .rcases zb k0 (mX i o h dR k0 VX) with h|h
      .omega
      .exact absurd h o7
    have GU:=Az (l:=ops.toList) (D:=λ k=>k<i) (λ k hk o' cH e he hb=>by
     have:=bL dv k o' cH e he hb;omega) i o dR (λ e he hb=>bL dv i o dR e he hb)
    have E4:=λ t hh=>P4 (l:=ops.toList) (es:=es) (s0:=s0) (lo:=lo) (m:=m) (bits:=(bG ops.toList []).getD i 0) (π:=π) (π':=eG lo i) YV bp (λ k hk=>by have:=xM.1 hk;omega) hn (Fu lo i)
     (λ k bP hk hb=>⟨by
      rcases zb k hb with h|h
      .omega
      .exact h,xM.2 ⟨bP,GU k hb⟩⟩) t hh
    obtain⟨hg,cC,UH⟩:=YW i o hil oZ dR;have cw:OE ops.toList m ((bG ops.toList []).getD i 0) (dz ops.toList es s0 (eG lo i))=OE ops.toList m ((bG ops.toList []).getD i 0) (dz ops.toList es s0 π):=by
     funext x;cases x with
     | tmp t =>
      simp only[OE];split
      .rfl
      .rename_i hh;exact ((E4 t hh).1).symm
     | _=>rfl
    have bP:Lc ops.toList m ((bG ops.toList []).getD i 0) (dz ops.toList es s0 (eG lo i))=Lc ops.toList m ((bG ops.toList []).getD i 0) (dz ops.toList es s0 π):=by
     funext t;simp only[Lc];split
     .rfl
     .rename_i hh;exact ((E4 t hh).2).symm
    have hg':e8 ops.toList ((bG ops.toList []).getD i 0) (dz ops.toList es s0 π) o (es.getD i ⟨false, .any,none⟩).Dh:=by
     unfold e8 at hg ⊢;split
     .rename_i rm;simpa [rm] using hg
     .rename_i g want rm;simp only[rm] at hg;obtain⟨t,b,q1,q2,q3,q4⟩:=hg;refine⟨t,b,q1,q2,?_,q4⟩;have hgm:g<m:=Nat.lt_trans (GU g q2) oZ;have hh:hidden ops.toList m ((bG ops.toList []).getD i 0) t=false:=by
       unfold hidden;rw[List.any_eq_false];intro k hk;simp only[List.mem_range] at hk;split
       .rename_i d hd;split
        .rename_i Be;have Be:=a7w Be;subst Be;rcases a8m k lo with IF|IF
         .rw[a5R i o hil dR k IF];simp
         .have:=mY k g d IF hk hgm hd q1;subst this;rw[q2];simp
        .simp
       .simp
      exact ((E4 t hh).1).trans q3
    have hw:=Dz (ops:=ops) rfl hI hg';have sN:∀ (G':Gh) (a':Act) (w':World),Inv c G' (dz ops.toList es s0 (π++[i])) a' w'->wpAny c.P .any ops Q' fuel (listed.setIfInBounds i true) a' w':=by
     intro G' a' w' tZ;refine ih (π++[i]) G' a' w' _ (by simp;omega) ?_ ?_ (by rw[a8S];exact bW) ?_ ?_ Q0 tZ
     .rw[a7Q];exact⟨hn,by simp,λ x hx y hy=>by simp at hy;subst hy;exact λ e=>rj (e ▸ hx)⟩
     .intro k hk;rcases a7y.1 hk with hk|hk
      .exact bp k hk
      .simp at hk;omega
     .intro k hk;rw[pc (by omega),hl k hk];simp[or_assoc]
     .intro k hk o' cH e he hb;rcases a7y.1 hk with hk|hk
      .exact (sM k hk o' cH e he hb).imp id (a9g _)
      .simp at hk;subst hk;rw[dR] at cH;simp only[a7v] at cH;subst cH;exact (MS e he hb).imp id (a9g _)
    have QV:bZ ops.toList i=o.dst:=by simp[bZ,dR]
    unfold wpOp;simp only[cd];cases G6:(es.getD i ⟨false, .any,none⟩).Dh with
    | true =>
     rw[G6] at hw;rw[a7E hw];obtain⟨vc,hq,dO⟩:=cC G6;rw[cw,bP] at hq;refine .inl (a8X ?_ (Fq hE hI (lk':=Lc ops.toList m ((bG ops.toList []).getD i 0) (dz ops.toList es s0 π)) ?_ ?_ hq dO))
     .intro a' w' hd;obtain⟨G',mg⟩:=J8 hI (EX i o hil oZ dR) (λ t ob Be KF=>by
       rw[KF] at hq;have QU:=Hx hq;have h0:=oj i o t hil oZ dR QU Be;have xg:=(fC ops.toList es t π s0 (λ k hk hkd=>by
        have:=mY k i t (bp k hk).1 (bp k hk).2 oZ hkd (by rw[QV];exact Be);subst this;exact rj hk)).2
       rw[xg,h0]) hd
      refine sN G' a' w' ?_;rw[rK,QV];exact mg
     .intro id ob aO;unfold Lc at aO;split at aO
      .cases aO
      .exact aO
     .intro x;cases x with
      | tmp t =>
       simp only[OE];split
       .trivial
       .exact aX hI (.tmp t)
      | const v=>exact aX hI (.const v)
      | global g=>exact aX hI (.global g)
      | func f=>exact aX hI (.func f)
    | false =>
     rw[G6] at hw;rw[hw];obtain⟨hv,KF⟩:=UH G6;refine sN G _ w ?_;rw[rK,QV,hv,KF,I6];exact Inv.put (v := .dN) hI rfl
theorem B4{α:Type}{l:List α}{lo hi j:Nat}{o:α}(h:((l.take hi).drop lo)[j]?=some o):l[lo+j]?=some o/\lo+j<hi:=by
 rw[a9C,a8O] at h;split at h
 .rename_i bp;exact⟨h,bp⟩
 .cases h
theorem gW{α:Type}{l:List α}{lo hi i:Nat}{o:α}(h:l[i]?=some o)(h1:lo<=i)(h2:i<hi):((l.take hi).drop lo)[i - lo]?=some o:=by
 rw[a9C,a8O,show lo+(i - lo)=i by omega,a7E h2,h]
theorem pD:∀ {l:List (Option Nat)},sf l=true->∀ (i j t:Nat),l[i]?=some (some t)->l[j]?=some (some t)->i=j
 | [],_,i,j,t,h,_=>by simp at h
 | none::r,h,i,j,t,hi,hj=>by
  cases i with
  | zero=>simp at hi
  | succ i =>
   cases j with
   | zero=>simp at hj
   | succ j=>rw[pD (l:=r) h i j t (by simpa using hi) (by simpa using hj)]
 | some d::r,h,i,j,t,hi,hj=>by
  simp only[sf] at h;split at h
  .cases h
  .rename_i Sm;rw[b0q] at Sm;have no:∀ k:Nat,r[k]?=some (some d)->False:=λ k hk=>by
    have:=Sm _ (a8i hk);simp at this
   cases i with
   | zero =>
    simp at hi;subst hi;cases j with
    | zero=>rfl
    | succ j=>exact (no j (by simpa using hj)).elim
   | succ i =>
    cases j with
    | zero =>
     simp at hj;subst hj;exact (no i (by simpa using hi)).elim
    | succ j=>rw[pD (l:=r) h i j t (by simpa using hi) (by simpa using hj)]
theorem Dy{l:List Oper}{lo hi:Nat}(h:A4 l lo hi=true):∀ j k t,lo<=j->j<hi->k<hi->bZ l j=some t->bZ l k=some t->j=k:=by
 unfold A4 at h;rw[Bool.and_eq_true,Bool.and_eq_true] at h;obtain⟨⟨_,h1⟩,h2⟩:=h;have hd:=pD h1;have get:∀ j t,bZ l j=some t->∃ o,l[j]?=some o/\o.dst=some t:=by
  intro j t h;unfold bZ at h;simp only[Option.bind_eq_some_iff] at h;exact h
 intro j k t hj hjh hkh GZ hkt;obtain⟨o,ho,Sz⟩:=get j t GZ;obtain⟨o',cH,a2z⟩:=get k t hkt;have g1:=gW ho hj hjh;rcases a8m k lo with hk|hk
 .rw[a8g] at h2;have hm:o'∈l.take lo:=a8i (by rw[a8O,a7E hk];exact cH);have:=h2 o' hm;rw[a2z] at this;simp only[a7V] at this;rw[b0q] at this;have:=this o (a8i g1);rw[Sz] at this;simp at this
 .have g2:=gW cH hk hkh;have:=hd (j - lo) (k - lo) t (by rw[a8T,g1];simp[Sz]) (by rw[a8T,g2];simp[a2z]);omega
theorem Sg{l:List Oper}{lo hi:Nat}(h:A4 l lo hi=true){i:Nat}{o:Oper}(h1:lo<=i)(h2:i<hi)(ho:l[i]?=some o):pE o.dst=true:=by
 unfold A4 at h;rw[Bool.and_eq_true,Bool.and_eq_true] at h;exact List.all_eq_true.1 h.1.1 o (List.mem_of_getElem? (gW ho h1 h2))
theorem BB{i:Nat}{o:Oper}:∀ {l:List Oper} {lo:Nat},(i,o)∈ju lo l↔∃ j,i=lo+j/\l[j]?=some o
 | [],lo=>by simp[ju]
 | x::l,lo=>by
  simp only[ju,a7J,a7x,BB (l:=l)];constructor
  .rintro (⟨rfl,rfl⟩|⟨j,rfl,h⟩)
   .exact⟨0,rfl,rfl⟩
   .exact⟨j+1,by omega,by simpa using h⟩
  .rintro⟨j,rfl,h⟩;cases j with
   | zero=>simp at h;exact .inl ⟨rfl,h.symm⟩
   | succ j=>exact .inr ⟨j,by omega,by simpa using h⟩
theorem DU:∀ (l:List Oper) (lo:Nat),((ju lo l).map (·.1)).Nodup
 | [],lo=>a8F
 | x::l,lo=>by
  simp only[ju,a8d,a8b];refine⟨λ h=>?_,DU l (lo+1)⟩;obtain⟨⟨i,o⟩,h1,h2⟩:=a7B.1 h;obtain⟨j,h3,_⟩:=BB.1 h1;simp only at h2;omega
theorem kW.mono{D D':List Nat}{a b:Act}(h:kW D a b)(hs:∀ t∈D,t∈D'):kW D' a b:=⟨h.size,h.da,h.db,λ t ht=>h.at' t λ q=>ht (hs t q)⟩
theorem Kh:∀ (l:List Oper) (lo:Nat),(ju lo l).length=l.length
 | [],lo=>rfl
 | x::l,lo=>by simp[ju,Kh l]
theorem Gt{α:Type}(p:α->Bool):∀ l:List α,(l.filter p).length+(l.filter λ x => !p x).length=l.length
 | []=>rfl
 | x::l=>by
  have:=Gt p l;cases h:p x<;>simp[b1c,h]<;>omega
theorem Tl(hE:bo c.P c.E){ops:Array Oper}(dv:backward ops.toList=true){Q:ah->Prop}{Q':Exit->Act->World->Prop}(hQ:∀ G s a w,Inv c G s a w->Q s->Q' .normal a w) :
  ∀ (VF:List Nat) (lo:Nat) (kn:List (Nat×Bool)) (fuel:Nat) (G:Gh) (s:ah) (a:Act) (w:World) (listed:Array Bool),ops.size=lo+fuel->listed.size=ops.size->(∀ k,k<ops.size->(listed.getD k false=true↔k<lo))->Inv c G s a w ->
   rY c.E ops ops.toList (bG ops.toList []) VF lo kn Q s->wpAny c.P .any ops Q' fuel listed a w:=by
 obtain⟨r,ha1,ha2,_⟩:=um ops.toList [];have MP:(bG ops.toList []).length=ops.size:=by rw[ha1];simpa using ha2
 intro VF;induction VF with
 | nil =>
  intro lo kn fuel G s a w listed hf bW hl hI hr;simp only[rY] at hr;split at hr
  .rename_i hb;have hb:=Nat.eq_of_beq_eq_true hb;have hlo:lo=ops.size:=by simpa using hb
   have h0:fuel=0:=by omega
   subst h0;refine⟨?_,hQ _ _ _ _ hI hr⟩;apply a9T.2;intro i hi;obtain⟨o,ho,h1,_⟩:=(mem_ready bW).1 hi;have bp:=(a8V.1 ho).1;have:=(hl i bp).2 (by omega);rw[h1] at this;cases this
  .exact hr.elim
 | cons hi VF ih =>
  intro lo kn fuel G s a w listed hf bW hl hI hr;simp only[rY] at hr;split at hr;case h_2=>exact hr.elim
  case h_1 hc =>
  simp only[a7H,b0T,Nat.ble_eq,a8q] at hc;obtain⟨MR,hc0,hc2,hc3⟩:=hc;split at hr
  .rename_i hb;have hb:=a7w hb;subst hb;have bp:lo<ops.size:=by omega
   obtain⟨fuel,rfl⟩:∃ f,fuel=f+1:=⟨fuel - 1,by omega⟩;have sO:(ops.toList.take (lo+1)).drop lo=[ops[lo]]:=by
    rw[List.drop_take,show lo+1 - lo=1 by omega,List.drop_eq_getElem_cons (by simpa using bp)];simp
   rw[sO] at hr;refine ZR hE dv bp (λ i h1 h2=>uK MR (by omega) (by omega) (by omega)) bW hl hI hr ?_;intro G s a w listed bW hl hI hp;exact ih (lo+1) kn fuel G s a w listed (by omega) bW hl hI hp
  .split at hr;case h_3=>exact hr.elim
   case h_1 Da WX =>
    unfold VD at hr;split at hr;case h_2=>exact hr.elim
    case h_1 gM =>
    have qV:∀ i o,(i,o)∈ju lo ((ops.toList.take hi).drop lo)↔lo<=i/\i<hi/\ops.toList[i]?=some o:=λ i o=>by
     rw[BB];constructor
     .rintro⟨j,rfl,h⟩;obtain⟨h1,h2⟩:=B4 h;exact⟨by omega,h2,h1⟩
     .rintro⟨h1,h2,h3⟩;exact⟨i - lo,by omega,gW h3 h1 h2⟩
    have cX:=DU ((ops.toList.take hi).drop lo) lo;have wa:(ju lo ((ops.toList.take hi).drop lo)).length=hi - lo:=by rw[Kh];simp;omega
    have uG:∀ x∈ju lo ((ops.toList.take hi).drop lo),∀ y∈ju lo ((ops.toList.take hi).drop lo),∀ t,x.2.dst=some t->y.2.dst=some t->x.1=y.1:=λ x hx y hy t hxt hyt=>by
     have h1:=(qV x.1 x.2).1 hx;have h2:=(qV y.1 y.2).1 hy;exact Dy Da x.1 y.1 t h1.1 h1.2.1 h2.2.1 (by simp[bZ,h1.2.2,hxt]) (by simp[bZ,h2.2.2,hyt])
    generalize ju lo ((ops.toList.take hi).drop lo)=eG at *
    simp only[ZD,a7H,a8g] at gM;obtain⟨t,b,q1,q2,q3⟩:=Kd hE hI hr;obtain⟨q4,q5⟩:=iX q3;have Zi:∀ p:Nat×Oper->Bool,((eG.filter p).map (·.1)).Nodup:=λ p=>cX.sublist (b0d _ b1H);have a3F:∀ x∈eG,∀ y∈eG,x.1=y.1->x=y:=λ x hx y hy e=>by
     obtain⟨x1,x2⟩:=x;obtain⟨y1,y2⟩:=y;simp only at e;subst e;have h1:=((qV _ _).1 hx).2.2;rw[((qV _ _).1 hy).2.2] at h1;simp only[a7v] at h1;rw[h1]
    refine SU hE (hi:=hi) (Seg:=eG) dv hc3 ?_ (λ x hx=>by simpa using (gM.1 x hx).1) (λ x hx=>(gM.1 x hx).2) ?_ uG (λ fuel G s a w listed hf bW hl hI hp=>ih hi kn fuel G s a w listed (by omega) bW hl hI hp) (fuel+(Fg c.E (bG ops.toList []) (eG.filter λ r => !kI c.E (bG ops.toList []) eG r)).length) fuel (eG.filter (kI c.E (bG ops.toList []) eG)) (Fg c.E (bG ops.toList []) (eG.filter λ r => !kI c.E (bG ops.toList []) eG r))
     ((eG.filter (kI c.E (bG ops.toList []) eG)).map (·.1)) [] [] G t a b w listed (a7P _) ?_ bW ?_ ?_ (Zi _) ((((iv _ _ _).map (·.1)).nodup_iff).2 (Zi _)) ?_ a8F a8F (λ p hp=>by cases hp) (λ p hp=>by cases hp) ?_ ?_ ?_ ?_ ?_ eG.length ?_
    .intro j o hj ho k hk;have:=(List.getElem?_eq_some_iff.1 ho).1;exact uK MR hj (by rw[MP];simpa using this) hk
    .intro x hx he;have:=gM.2 x hx;simpa [he] using this
    .rw[a8n,(iv _ _ _).length_eq,Gt,wa,a7T,a7T];omega
    .intro i jy;obtain⟨⟨i',o⟩,h1,rfl⟩:=a7B.1 jy;obtain⟨h2,h3⟩:=a8E.1 h1;have h4:=(qV _ _).1 h2;refine⟨h4.2.1,o,h4.2.2,h1,h2,?_⟩;have:=gM.2 _ h2;rw[h3] at this;have dm:iI o.op=false:=by
      have:=zR (E:=c.E) (o:=o) (by simp only[kI,HA,a7H] at h3;exact h3.1.1);simp only[de,b1z] at this;exact this.2.1
     exact⟨h3,by simpa [dm] using this⟩
    .intro x hx;have hx:=(iv _ _ _).mem_iff.1 hx;have h2:=(a8E.1 hx).1;have h4:=(qV _ _).1 h2;exact⟨h4.2.1,h4.2.2,h2⟩
    .intro i jy x hx e;have hx:=(iv _ _ _).mem_iff.1 hx;obtain⟨y,h1,rfl⟩:=a7B.1 jy;obtain⟨h2,h3⟩:=a8E.1 h1;obtain⟨h4,h5⟩:=a8E.1 hx;have:=a3F _ h2 _ h4 e;subst this;rw[h3] at h5;cases h5
    .intro k hk;rw[hl k hk];constructor
     .intro h;refine⟨by omega,λ hm=>?_, .inl λ x hx e=>?_⟩
      .obtain⟨y,h1,rfl⟩:=a7B.1 hm;have:=((qV _ _).1 (a8E.1 h1).1).1;omega
      .have:=((qV _ _).1 (a8E.1 ((iv _ _ _).mem_iff.1 hx)).1).1;omega
     .rintro⟨h1,h2,h3⟩;have h3:=h3.resolve_right (by simp);rcases a8m k lo with h|h
      .exact h
      .have hm:(k,ops[k])∈eG:=(qV _ _).2 ⟨h,h1,by simp⟩;cases hr:kI c.E (bG ops.toList []) eG (k,ops[k]) with
       | true=>exact absurd (a7B.2 ⟨_,a8E.2 ⟨hm,hr⟩,rfl⟩) h2
       | false=>exact absurd rfl (h3 _ ((iv _ _ _).mem_iff.2 (a8E.2 ⟨hm,by simp[hr]⟩)))
    .intro k hk IF o ho e he hb;have h1:=bL dv k o ho e he hb;have h2:=(hl k hk).1 IF;exact (hl e.on (by omega)).2 (by omega)
    .exact q1
    .refine q2.mono λ d hd=>?_;obtain⟨r,h1,h2⟩:=fA.1 hd;have h4:=(qV _ _).1 (a8E.1 h1).1;exact a7y.2 (.inl (a9s.2 ⟨r.1,a7B.2 ⟨r,h1,rfl⟩,by simp[bZ,h4.2.2,h2]⟩))
    .intro i jy o ho;obtain⟨⟨i',o'⟩,h1,rfl⟩:=a7B.1 jy;have h4:=((qV _ _).1 (a8E.1 h1).1).2.2;simp only at ho;rw[h4] at ho;simp only[a7v] at ho;subst ho;exact q4 _ h1
    .exact q5
   case h_2 Da WX =>
   have mY:=Dy Da;obtain⟨es,mj,s',nD,hq⟩:=oJ hr;have hlen:((ops.toList.take hi).drop lo).length=hi - lo:=by simp;omega
   obtain⟨W9,Zk⟩:=On (lo:=lo) (s0:=((ops.toList.take hi).drop lo).foldl ah.fresh s) ((ops.toList.take hi).drop lo) lo es (List.replicate lo ⟨false, .any,none⟩) _ s' nD (λ j o ho=>(B4 ho).1) (by simp) (Nat.le_refl _) (by simp[eG,dz]);rw[hlen,show lo+(hi - lo)=hi by omega] at Zk;subst Zk;have YI:Inv c G (((ops.toList.take hi).drop lo).foldl ah.fresh s) a w:=yn _ hI;refine X0 hE (lo:=lo) (m:=hi) (es:=List.replicate lo ⟨false, .any,none⟩++es) (s0:=((ops.toList.take hi).drop lo).foldl ah.fresh s) dv hc3 ?_ ?_ mY ?_ (λ i o h1 h2 ho=>Sg Da h1 h2 ho) ?_ ?_ fuel [] G a w listed (by simp;omega) (by simp) (by simp) bW (by simpa using hl) (by simp) (by omega) YI
   .intro j o hj ho k hk;have:=(List.getElem?_eq_some_iff.1 ho).1;exact uK MR hj (by rw[MP];simpa using this) hk
   .intro j o hj ho k hk;have:=(List.getElem?_eq_some_iff.1 ho).1;exact uK hc0 hj (by rw[MP];simpa using this) hk
   .intro i o h1 h2 ho;have:=W9 (i - lo) o (gW ho h1 h2);rwa [show lo+(i - lo)=i by omega] at this
   .intro i o t h1 h2 ho QU Be;exact (vY ((ops.toList.take hi).drop lo) s t).2 o (a8i (gW ho h1 h2)) QU Be
   .intro fuel G a w listed hf bW hl hI;exact ih hi mj fuel G _ a w listed (by omega) bW hl hI (Nb hI hq)
theorem Kr(hE:bo c.P c.E)(gM:c.P.follows .mixedOrders=true){id:Nat}{ops:Array Oper}{Q:ah->Prop}{Q':Exit->Act->World->Prop}(hQ:∀ G s a w,Inv c G s a w->Q s->Q' .normal a w)
  (h:Inv c G s a w) (hd:H8 c.E ops Q s):(Code.region id ops true).wp c.P Q' a w:=by
 unfold H8 at hd;simp only at hd;split at hd
 .exact Ma hE gM hQ h hd
 .split at hd;case h_2=>exact hd.elim
  case h_1 dv =>
  refine wp_region_any gM ?_;exact Tl hE dv hQ _ 0 [] ops.size G s a _ _ (by simp) (by simp) (by intro k hk;simp[hk]) (bf.drew h) hd
end
def L8{c:Ctx}{G:Gh}{s:ah}{a:Act}{w:World}(hE:bo c.P c.E)(gM:c.P.follows .mixedOrders=true){id:Nat}{ops:Array Oper}{Q:ah->Prop}{Q':Exit->Act->World->Prop}(hQ:∀ G s a w,Inv c G s a w->Q s->Q' .normal a w)
  (h:Inv c G s a w) (hd:R3 c.E ops Q s):(Code.region id ops true).wp c.P Q' a w:=Kr hE gM hQ h hd
theorem iO{u v:TV}(h:tQ u v):u=v:=by
 unfold tQ at h;split at h
 .rename_i x hx;have:=TV.aR hx;rw[this,h]
 .exact h.elim
theorem yG:∀ {l:List Nat},nodupB l=true->l.Nodup
 | [],_=>a8F
 | a::r,h=>by
  simp only[nodupB] at h;split at h
  .cases h
  .rename_i hc;exact List.nodup_cons.2 ⟨by simpa using hc,yG h⟩
theorem wb{α:Type}(f:α->Nat):∀ {l:List α},(l.map f).Nodup->∀ x∈l,∀ y∈l,f x=f y->x=y
 | [],_,x,hx,_,_,_=>by simp at hx
 | a::r,h,x,hx,y,hy,he=>by
  simp only[a8d,a8b] at h;rcases a7J.1 hx with Q6|Q6
  .rcases a7J.1 hy with OO|OO
   .rw[Q6,OO]
   .exact absurd (a7B.2 ⟨y,OO,by rw[<-he,Q6]⟩) h.1
  .rcases a7J.1 hy with OO|OO
   .exact absurd (a7B.2 ⟨x,Q6,by rw[he,OO]⟩) h.1
   .exact wb f h.2 x Q6 y OO he
section
variable {c:Ctx} {G:Gh} {s t:ah} {a:Act} {w w':World}
def fu(G:Gh)(s t:ah)(ρ:List (Nat×Nat))(id:Nat):Value:=match s.ag (cY ρ id) with
 | some _=>G.η (cY ρ id)
 | none=>match cU (t.ag id) with
  | true => .tuple [.slice none 0 0].toArray
  | false => .slice none 0 0
def oE(G:Gh)(s:ah)(ρ:List (Nat×Nat))(id:Nat):List Nat:=match s.ag (cY ρ id) with
 | some _=>G.φ (cY ρ id)
 | none=>[]
theorem lM{ρ:List (Nat×Nat)}{x:Value}{u v:AV}(h:AV.qR ρ s t u v)(hu:C1 c G s.ag w u x):C1 c ⟨G.S,fu G s t ρ,oE G s ρ⟩ t.ag w v x:=by
 unfold AV.qR at h;split at h
 .trivial
 .split at h
  .have:=iO h;subst this;exact hu
  .split at h
   .subst h;exact⟨rfl,Ls (c:=c) (G:=G) (lk:=s.ag) (τ := .slice _) (v := .nil) rfl (show C1 c G s.ag w .nil x from hu)⟩
   .exact h.elim
  .exact h.elim
 .split at h
  .exact hu
  .exact h.elim
 .split at h
  .have:=iO h;subst this;exact hu
  .exact h.elim
 .split at h
  .split at h
   .rename_i hb;simp only[a7H] at hb;have h1:=a7w hb.1.1;have h2:=a7w hb.1.2;subst h1 h2;obtain⟨b,k1,k2,k3⟩:=hu;refine⟨b,?_,k2,hb.2⟩;simp only[fu];match hl:s.ag (cY ρ _),k3 with
    | some o,_=>exact k1
   .exact h.elim
  .exact h.elim
 .split at h
  .split at h
   .rename_i hb;simp only[a7H] at hb;have h1:=a7w hb.1;subst h1;obtain⟨k1,k2,k3⟩:=hu;refine⟨?_,hb.2,k3⟩;simp only[fu];match hl:s.ag (cY ρ _),k2 with
    | some o,_=>exact k1
   .exact h.elim
  .split at h
   .rename_i hr hn;refine⟨?_,hr,none,0,0,hu⟩;simp only[fu,hn,oQ hr];exact hu
   .exact h.elim
  .exact h.elim
 .split at h
  .split at h
   .rename_i hb;simp only[a7H] at hb;have h1:=a7w hb.1;subst h1;obtain⟨k1,l,k2,k3⟩:=hu;refine⟨hb.2,l,?_,k3⟩;simp only[fu];match hl:s.ag (cY ρ _),k1 with
    | some o,_=>exact k2
   .exact h.elim
  .split at h
   .rename_i hr hn;have hu:x = .slice none 0 0:=hu;refine⟨hr,[],?_,none,0,0,hu⟩;simp only[fu,hn,hr];rw[hu]
   .exact h.elim
  .exact h.elim
 .split at h
  .split at h
   .rename_i hb;have h1:=a7w hb;subst h1;exact hu
   .exact h.elim
  .exact h.elim
 .split at h
  .split at h
   .rename_i hb;simp only[a7H] at hb;have h1:=a7w hb.1;subst h1;obtain⟨k1,k2,k3⟩:=hu;refine⟨?_,hb.2,k3⟩;simp only[fu];match hl:s.ag (cY ρ _),k2 with
    | some o,_=>exact k1
   .exact h.elim
  .exact h.elim
 .exact h.elim
theorem A0{ρ:List (Nat×Nat)}:∀ {us vs:List AV} {l:List Value},Dw ρ s t us vs->aM (C1 c G s.ag w) us l->aM (C1 c ⟨G.S,fu G s t ρ,oE G s ρ⟩ t.ag w) vs l
 | [],[],[],_,_=>trivial
 | u::us,v::vs,x::l,h,hu=>by
  simp only[Dw] at h;split at h
  .exact⟨af,A0 h hu.2⟩
  .exact⟨lM h.1 hu.1,A0 h.2 hu.2⟩
 | [],_::_,_,h,_=>h.elim
 | _::_,[],_,h,_=>h.elim
 | [],[],_::_,_,h=>h.elim
 | _::_,_::_,[],_,h=>h.elim
theorem YA{ρ:List (Nat×Nat)}{x:Value}{u v:AV}(h:AV.a2g ρ s t u v)(hu:CR c G s.ag w u x):CR c ⟨G.S,fu G s t ρ,oE G s ρ⟩ t.ag w v x:=by
 rcases hu.inv with ⟨z,rfl,h1⟩|⟨cs,l,rfl,rfl,h1⟩|h1
 .cases v with
  | any=>trivial
  | aQ z' =>
   have:=iO (show tQ z z' from h);subst this;exact hu
  | _=>exact (show False from h).elim
 .cases v with
  | any=>trivial
  | agg vs=>exact⟨l,rfl,A0 (show Dw ρ s t cs vs from h) h1⟩
  | _=>exact (show False from h).elim
 .cases u with
  | agg cs=>exact (show False from h1).elim
  | _=>exact (lM (show AV.qR ρ s t _ v by cases v<;>exact h) h1).TD
theorem MC{ρ:List (Nat×Nat)}:∀ {us vs:List AV} {l:List Value},Se ρ s t us vs->aM (CR c G s.ag w) us l->aM (CR c ⟨G.S,fu G s t ρ,oE G s ρ⟩ t.ag w) vs l
 | [],[],[],_,_=>trivial
 | u::us,v::vs,x::l,h,hu=>by
  simp only[Se] at h;split at h
  .exact⟨af,MC h hu.2⟩
  .exact⟨YA h.1 hu.1,MC h.2 hu.2⟩
 | [],_::_,_,h,_=>h.elim
 | _::_,[],_,h,_=>h.elim
 | [],[],_::_,_,h=>h.elim
 | _::_,_::_,[],_,h=>h.elim
theorem Uh{u v:FV}(h:VS u v):u=v:=by
 unfold VS at h;split at h
 .rename_i F hF;have:=FV.aR hF;rw[this,h]
 .exact h.elim
theorem a0X{ρ:List (Nat×Nat)}{x:Value}{u v:AV}(h:AV.fit ρ s t u v)(hu:VR c G s.ag w u x):VR c ⟨G.S,fu G s t ρ,oE G s ρ⟩ t.ag w v x:=by
 cases u with
 | agg us =>
  obtain⟨l,h1,h2⟩:=hu;cases v with
  | any=>trivial
  | agg vs=>exact⟨l,h1,A0 (show Dw ρ s t us vs from h) h2⟩
  | aQ z =>
   obtain⟨τ,q⟩:=z;simp only[AV.fit] at h;split at h
   .rename_i y hy;have hr:du w G.S ⟨τ,y⟩ x:=wB (c:=c) (G:=G) (lk:=s.ag) (w:=w) (x:=x) hy ⟨l,h1,h2⟩;have h':y=q:=h;show du w G.S ⟨τ,q⟩ x;rw[<-h'];exact hr
   .exact h.elim
  | _=>exact (show False from h).elim
 | fZ us =>
  cases v with
  | any=>trivial
  | _=>exact (show False from h).elim
 | aQ z =>
  cases v with
  | any=>trivial
  | aQ z' =>
   have:=iO (show tQ z z' from h);subst this;exact hu
  | _=>exact (show False from h).elim
 | cK f us =>
  obtain⟨l,h1,h2⟩:=hu;cases v with
  | any=>trivial
  | cK g vs =>
   simp only[AV.fit] at h;split at h
   .rename_i hb;have hb:=a7w hb;subst hb;exact⟨l,h1,MC h h2⟩
   .exact h.elim
  | _=>exact (show False from h).elim
 | gp z =>
  cases v with
  | any=>trivial
  | gp z' =>
   have:=Uh (show VS z z' from h);subst this;exact hu
  | _=>exact (show False from h).elim
 | any=>cases v<;>first|trivial|exact (show False from h).elim
 | dN=>cases v<;>first|trivial|exact (show False from h).elim
 | nil=>exact (lM (u := .nil) (show AV.qR ρ s t .nil v by cases v<;>exact h) (show C1 c G s.ag w .nil x from hu)).eQ
 | cP z=>exact (lM (u := .cP z) (show AV.qR ρ s t (.cP z) v by cases v<;>exact h) (show C1 c G s.ag w (.cP z) x from hu)).eQ
 | ptr i o=>exact (lM (u := .ptr i o) (show AV.qR ρ s t (.ptr i o) v by cases v<;>exact h) (show C1 c G s.ag w (.ptr i o) x from hu)).eQ
 | row i=>exact (lM (u := .row i) (show AV.qR ρ s t (.row i) v by cases v<;>exact h) (show C1 c G s.ag w (.row i) x from hu)).eQ
 | dS i k o=>exact (lM (u := .dS i k o) (show AV.qR ρ s t (.dS i k o) v by cases v<;>exact h) (show C1 c G s.ag w (.dS i k o) x from hu)).eQ
 | fn f=>exact (lM (u := .fn f) (show AV.qR ρ s t (.fn f) v by cases v<;>exact h) (show C1 c G s.ag w (.fn f) x from hu)).eQ
 | mp i=>exact (lM (u := .mp i) (show AV.qR ρ s t (.mp i) v by cases v<;>exact h) (show C1 c G s.ag w (.mp i) x from hu)).eQ
 | aC i=>exact (lM (u := .aC i) (show AV.qR ρ s t (.aC i) v by cases v<;>exact h) (show C1 c G s.ag w (.aC i) x from hu)).eQ
 | sub i k o z=>exact (lM (u := .sub i k o z) (show AV.qR ρ s t (.sub i k o z) v by cases v<;>exact h) (show C1 c G s.ag w (.sub i k o z) x from hu)).eQ
 | ed i k o z=>exact (lM (u := .ed i k o z) (show AV.qR ρ s t (.ed i k o z) v by cases v<;>exact h) (show C1 c G s.ag w (.ed i k o z) x from hu)).eQ
theorem yl{ρ:List (Nat×Nat)}:∀ {us vs:List AV},wV ρ s t us vs->us.length=vs.length/\∀ i,vs.getD i .any = .any\/AV.fit ρ s t (us.getD i .any) (vs.getD i .any)
 | [],[],_=>⟨rfl,λ i => .inl (by simp)⟩
 | u::us,v::vs,h=>by
  simp only[wV] at h;split at h
  .obtain⟨h1,h2⟩:=yl h;refine⟨by simp[h1],λ i=>?_⟩;cases i with
   | zero=>exact .inl rfl
   | succ i=>simpa using h2 i
  .obtain⟨h1,h2⟩:=yl h.2;refine⟨by simp[h1],λ i=>?_⟩;cases i with
   | zero=>exact .inr h.1
   | succ i=>simpa using h2 i
 | [],_::_,h=>h.elim
 | _::_,[],h=>h.elim
def XW(aT:Ty)(ys:List aT.den)(τ:Ty)(xs:List τ.den):Prop:=∀ (w:World) (η:Value) (fp:List Nat),gL w η aT ys fp->gL w η τ xs fp
theorem RP{aT:Ty}{ys:List aT.den}{τ:Ty}{xs:List τ.den}(h:RO aT ys τ xs):XW aT ys τ xs:=by
 unfold RO at h;split at h
 .rename_i h1 h2;have h1:=a7Z h1;have h2:=a7Z h2;subst h1 h2;have h:=iO h;rw[TV.TW] at h;cases h;intro w η fp hT;obtain⟨v,l,a,cap,q1,q2,q3,q4,q5,q6⟩:=hT;have e1:(List.map toO ys).length=ys.length:=a8n _;have e2:((show List J from ys).map toO).map (Ty.aI (.st .oExpr))=ys.map (Ty.aI (.st .expr)):=by
   rw[List.map_map];refine b1G λ x _=>?_;show aJ.aI .oExpr (toO x)=aJ.aI .expr x;rw[aJ.bR,aJ.bR];rfl
  refine⟨v,l,a,cap,q1,by rw[q2];exact congrArg (Value.slice a · cap) e1.symm,by exact e1 ▸ q3,q4,by exact e1 ▸ q5,?_⟩;rcases q6 with ⟨rfl,q7,q8⟩|⟨b,f,t,q7,q8,q9,q10,q11⟩
  .exact .inl ⟨rfl,q7,q8⟩
  .exact .inr ⟨b,f,t,q7,q8,q9,q10,e2 ▸ q11⟩
 .have h:=iO h;cases h;exact λ _ _ _ h=>h
def a0K(ρ:List (Nat×Nat))(s t:ah)(id:Nat):aw->Prop
 | .box bs=>∃ Z9,s.ag (cY ρ id)=some (.box Z9)/\Dw ρ s t Z9 bs
 | .row e τ xs=>s.ag (cY ρ id)=some (.row e τ xs)\/(s.ag (cY ρ id)=none/\xs=[])
 | .aC τ xs=>(∃ aT ys,s.ag (cY ρ id)=some (.aC aT ys)/\XW aT ys τ xs)\/(s.ag (cY ρ id)=none/\xs=[])
 | .map m=>s.ag (cY ρ id)=some (.map m)
theorem SS{a b:MV}(h:UR a b):a=b:=by
 unfold UR at h;split at h
 .rename_i f n hf;rw[MV.aR hf];simp only;rw[h.1,h.2]
 .exact h.elim
theorem jE{ρ:List (Nat×Nat)}:∀ {l:List (Nat×aw)},iT ρ s t l->∀ id o,(id,o)∈l->a0K ρ s t id o
 | [],_,id,o,h=>by simp at h
 | (k, .box bs)::r,h,id,o,hm=>by
  simp only[iT] at h;split at h
  .rename_i Z9 ha;rcases a7J.1 hm with e|hm
   .simp only[a7x] at e;obtain⟨rfl,rfl⟩:=e;exact⟨Z9,ha,h.1⟩
   .exact jE h.2 id o hm
  .exact h.elim
 | (k, .row e τ xs)::r,h,id,o,hm=>by
  simp only[iT] at h;split at h
  .rename_i e' aT ys ha;split at h
   .rename_i he;have he:=a7w he;subst he;rcases a7J.1 hm with e1|hm
    .simp only[a7x] at e1;obtain⟨rfl,rfl⟩:=e1;have:=iO h.1;cases this;exact .inl ha
    .exact jE h.2 id o hm
   .exact h.elim
  .rename_i ha;rcases a7J.1 hm with e1|hm
   .simp only[a7x] at e1;obtain⟨rfl,rfl⟩:=e1;exact .inr ⟨ha,h.1⟩
   .exact jE h.2 id o hm
  .exact h.elim
 | (k, .aC τ xs)::r,h,id,o,hm=>by
  simp only[iT] at h;split at h
  .rename_i aT ys ha;rcases a7J.1 hm with e1|hm
   .simp only[a7x] at e1;obtain⟨rfl,rfl⟩:=e1;exact .inl ⟨aT,ys,ha,RP h.1⟩
   .exact jE h.2 id o hm
  .rename_i ha;rcases a7J.1 hm with e1|hm
   .simp only[a7x] at e1;obtain⟨rfl,rfl⟩:=e1;exact .inr ⟨ha,h.1⟩
   .exact jE h.2 id o hm
  .exact h.elim
 | (k, .map m)::r,h,id,o,hm=>by
  simp only[iT] at h;split at h
  .rename_i m' ha;rcases a7J.1 hm with e1|hm
   .simp only[a7x] at e1;obtain⟨rfl,rfl⟩:=e1;rw[SS h.1] at ha;exact ha
   .exact jE h.2 id o hm
  .exact h.elim
theorem A1{ρ:List (Nat×Nat)}(h:Inv c G s a w)(hf:Fits ρ s t):∃ G',Inv c G' t a w:=by
 unfold Fits at hf;split at hf;case h_2=>exact hf.elim
 case h_1 hb =>
  rw[a7H] at hb;obtain⟨hb,hb4⟩:=hb;rw[a7H] at hb;obtain⟨hb,MQ⟩:=hb;simp only[a7H] at hb;obtain⟨hs,ho⟩:=hf;obtain⟨hlen,M3⟩:=yl hs;have iU:=jE ho;have eI:∀ id b,dx (fu G s t ρ id)=some b->∃ o,s.ag (cY ρ id)=some o/\dx (G.η (cY ρ id))=some b:=by
   intro id b hb;unfold fu at hb;split at hb
   .rename_i o ho;exact⟨o,ho,hb⟩
   .split at hb<;>cases hb
  refine⟨⟨G.S,fu G s t ρ,oE G s ρ⟩,?_⟩;exact {
   defers:=h.defers
   size:=h.size.trans hlen
   aK:=h.aK,iY:=h.iY,dZ:=h.dZ,sX:=h.sX,dy:=h.dy
   aA:=λ i=>by
    rcases M3 i with e|e
    .rw[show t.sl i = .any from e];trivial
    .exact a0X e (h.aA i)
   aH:=λ id o aO=>by
    have hof:=iU id o (gb aO);cases o with
    | box bs =>
     obtain⟨Z9,h1,h2⟩:=hof;obtain⟨b,l,ty,k1,k2,k3⟩:=h.aH _ _ h1;refine⟨b,l,ty,?_,k2,A0 h2 k3⟩;simp only[fu,h1];exact k1
    | row e τ xs =>
     rcases hof with h1|⟨h1,rfl⟩
     .obtain⟨l,k1,k2,k3⟩:=h.aH _ _ h1;refine⟨l,?_,k2,k3⟩;simp only[fu,h1];exact k1
     .refine⟨[],?_,rfl,by simp⟩;simp only[fu,h1,oQ (show isRow (t.ag id)=true by rw[aO];rfl)];exact World.ownsRow_nil w 0 e τ.size
    | aC τ xs=>trivial
    | map m =>
     have h1:s.ag (cY ρ id)=some (.map m):=hof;obtain⟨b,es,clock,k1,k2⟩:=h.aH _ _ h1;refine⟨b,es,clock,?_,k2⟩;simp only[fu,h1];exact k1
   place:=λ id o b aO gv=>by
    obtain⟨o',h1,h2⟩:=eI id b gv;exact h.place _ _ b h1 h2
   apart:=λ id di o o' b aO Bg gv a5A=>by
    obtain⟨p,h1,h2⟩:=eI id b gv;obtain⟨p',h3,h4⟩:=eI di b a5A;have:=h.apart _ _ _ _ b h1 h3 h2 h4;have J3:=wb (λ p:Nat×aw=>cY ρ p.1) (yG hb.2) (id,o) (gb aO) (di,o') (gb Bg) this;exact congrArg Prod.fst J3
   aN:=by
    have M8:∀ id b,b∈oE G s ρ id->(∃ o,s.ag (cY ρ id)=some o)/\b∈G.φ (cY ρ id):=λ id b cv=>by
     unfold oE at cv;split at cv
     .rename_i o ho;exact⟨⟨o,ho⟩,cv⟩
     .simp at cv
    have nD:∀ id τ xs,t.ag id=some (.aC τ xs)->(∃ aT ys,s.ag (cY ρ id)=some (.aC aT ys)/\XW aT ys τ xs)\/(s.ag (cY ρ id)=none/\xs=[]):=λ id τ xs aO=>iU id _ (gb aO);have ff:∀ id τ xs b,t.ag id=some (.aC τ xs)->b∈oE G s ρ id->∃ aT ys,s.ag (cY ρ id)=some (.aC aT ys)/\b∈G.φ (cY ρ id):=λ id τ xs b aO cv=>by
     obtain⟨⟨o,ho⟩,h2⟩:=M8 id b cv;rcases nD id τ xs aO with ⟨aT,ys,h1,_⟩|⟨h1,_⟩
     .exact⟨aT,ys,h1,h2⟩
     .rw[h1] at ho;cases ho
    exact {
     tr:=λ id τ xs aO=>by
      rcases nD id τ xs aO with ⟨aT,ys,h1,hle⟩|⟨h1,rfl⟩
      .simp only[fu,oE,h1];exact hle _ _ _ (h.aN.tr _ _ _ h1)
      .simp only[fu,oE,h1,show cU (t.ag id)=true by rw[aO];rfl];exact⟨_,[],none,0,rfl,rfl,by simp,by simp[maxLen],by simp, .inl ⟨rfl,⟨rfl,rfl⟩,rfl⟩⟩
     nd:=λ id τ xs aO=>by
      rcases nD id τ xs aO with ⟨aT,ys,h1,_⟩|⟨h1,_⟩
      .simp only[oE,h1];exact h.aN.nd _ _ _ h1
      .simp only[oE,h1];exact a8F
     pl:=λ id τ xs b aO cv=>by
      obtain⟨_,_,h1,h2⟩:=ff id τ xs b aO cv;obtain⟨q1,q2,q3,q4⟩:=h.aN.pl _ _ _ b h1 h2;refine⟨q1,q2,q3,λ i o hi qg=>?_⟩;obtain⟨o',k1,k2⟩:=eI i b qg;exact q4 _ o' k1 k2
     ap:=λ id di τ aT xs cF b aO Bg yq EW=>by
      obtain⟨_,_,h1,h2⟩:=ff id τ xs b aO yq;obtain⟨_,_,h3,h4⟩:=ff di aT cF b Bg EW;have:=h.aN.ap _ _ _ _ _ _ b h1 h3 h2 h4;have J3:=wb (λ p:Nat×aw=>cY ρ p.1) (yG hb.2) (id, .aC τ xs) (gb aO) (di, .aC aT cF) (gb Bg) this;exact congrArg Prod.fst J3 }
   root:=λ id v hr ht=>by
    have hrg:=h.fE id v hr;match hl:t.ag id,ht with
    | some (.aC τ xs),_ =>
     have hq:=a8g.1 MQ _ (gb hl);simp only[a9c,a7H,b0T,Nat.ble_eq] at hq;rcases hq with hq|hq|⟨Aj,sP⟩
     .omega
     .omega
     .have Aj:=Nat.eq_of_beq_eq_true Aj;obtain⟨l,h2⟩:=h.root id v hr sP;refine⟨l,?_⟩;show fu G s t ρ id=_;unfold fu;rw[Aj];match hs:s.ag id,sP with
      | some (.aC ..),_=>exact h2
   fE:=h.fE
   dq:=λ id v hr ht=>by
    have hrg:=h.eF id v hr;match hl:t.ag id,ht with
    | some (.box cs),_ =>
     have hq:=a8g.1 hb4 _ (gb hl);simp only[gH,a8x,b1D,a9c,a7H,b0T] at hq;rcases hq with hq|⟨Aj,sP⟩
     .omega
     .have Aj:=Nat.eq_of_beq_eq_true Aj;have h2:=h.dq id v hr sP;show fu G s t ρ id=_;unfold fu;rw[Aj];match hs:s.ag id,sP with
      | some (.box ..),_=>exact h2
   eF:=h.eF }
theorem fH(hE:bo c.P c.E)(gM:c.P.follows .mixedOrders=true):∀ (bl:Code) (Λ:Nat->aL) (cur:Nat) (Q:Exit->ah->Prop) (G:Gh) (s:ah) (a:Act) (w:World),
  Inv c G s a w->rX c.E bl Λ cur Q s->bl.wp c.P (λ e a w=>∃ G s,Inv c G s a w/\Q e s) a w
 | .skip,Λ,cur,Q,G,s,a,w,h,hr=>wp_skip ⟨G,s,h,hr⟩
 | .region id ops draw,Λ,cur,Q,G,s,a,w,h,hr=>by
  cases draw with
  | true=>exact L8 hE gM (Q:=Q .normal) (λ G s a w hI hq=>⟨G,s,hI,hq⟩) h hr
  | false =>
   refine wp_region ?_;have:=vM hE (ops:=ops) (Q:=Q .normal) (Q':=λ e a w=>∃ G s,Inv c G s a w/\Q e s) (λ G s a w hI hq=>⟨G,s,hI,hq⟩) ops.toList 0 [] G s a w (by simp) h hr;rw[List.range_eq_range'];simpa using this
 | .seq x y,Λ,cur,Q,G,s,a,w,h,hr=>by
  simp only[rX] at hr;split at hr;case h_2 ι P μ fz dead ins aK os PZ ren sub hL =>
   obtain⟨hx,hy⟩:=hr;refine wp_seq (b0U (fH hE gM x Λ cur _ G s a w h hx) ?_);rintro e a' w' ⟨G',s',hI,hq⟩;cases e with
   | normal =>
    obtain⟨j,hPj,hF⟩:=hq;obtain⟨G3,h3⟩:=hI.A3 fz;obtain⟨G4,h4⟩:=A1 h3 hF.ex.choose_spec;exact fH hE gM y (sub j) cur Q G4 _ a' w' h4 (hy j hPj)
   | _=>exact⟨G',s',hI,hq⟩
  refine wp_seq (b0U (fH hE gM x Λ cur _ G s a w h hr) ?_);rintro e a' w' ⟨G',s',hI,hq⟩;cases e with
  | normal=>exact fH hE gM y Λ cur Q G' s' a' w' hI hq
  | _=>exact⟨G',s',hI,hq⟩
 | .cond x p q,Λ,cur,Q,G,s,a,w,h,hr=>by
  simp only[rX] at hr;split at hr
  .rename_i t ht;have hx:=aX h x;rw[ht] at hx;have hx:[a.eval x]=[.bool t]:=hx;simp only[a7A,a7W] at hx;refine wp_cond hx ?_;cases t with
   | true=>exact fH hE gM p Λ cur Q G s a w h (hr.1 rfl)
   | false=>exact fH hE gM q Λ cur Q G s a w h (hr.2 rfl)
  .exact hr.elim
 | .block id x,Λ,cur,Q,G,s,a,w,h,hr=>by
  refine wp_block (b0U (fH hE gM x Λ id _ G s a w h hr) ?_);rintro e a' w' ⟨G',s',hI,hq⟩;cases e with
  | exit i =>
   simp only at hq;simp only[Exit.inBlock];split at hq
   .rename_i hi;rw[a7E (a7w hi)];exact⟨G',s',hI,hq⟩
   .rename_i hi;have:i≠id:=λ e=>by subst e;simp at hi
    rw[a7z this];exact⟨G',s',hI,hq⟩
  | _=>exact⟨G',s',hI,hq⟩
 | .loop x,Λ,cur,Q,G,s,a,w,h,hr=>by
  simp only[rX] at hr;split at hr
  .exact hr.elim
  .rename_i ι P μ fz dead ins aK os PZ ren sub hL;obtain⟨⟨i0,hP0,hF0⟩,a1i⟩:=hr;obtain⟨G1,h1⟩:=h.A3 fz;obtain⟨G2,h2⟩:=A1 h1 hF0.ex.choose_spec;refine wp_loop_ghost (λ n a w=>∃ i G,P i/\μ i=n/\Inv c G (oh s (dead++Code.x6 x) (ins i) aK (os i)) a w) (μ i0) ⟨i0,G2,hP0,rfl,h2⟩ ?_;rintro n a' w' ⟨i,G',hP,rfl,hI⟩;refine b0U (fH hE gM x (sub i) cur _ G' _ a' w' hI (a1i i hP)) ?_;rintro e a'' Pa ⟨G'',s'',a2j,hq⟩;cases e with
   | normal =>
    obtain⟨j,hPj,bp,hF⟩:=hq;obtain⟨G3,h3⟩:=a2j.A3 fz;obtain⟨G4,h4⟩:=A1 h3 hF.ex.choose_spec;exact⟨μ j,bp,j,G4,hPj,rfl,h4⟩
   | _=>exact⟨G'',s'',a2j,hq⟩
 | .exit id,Λ,cur,Q,G,s,a,w,h,hr=>wp_exit ⟨G,s,h,hr⟩
 | .ret,Λ,cur,Q,G,s,a,w,h,hr=>wp_ret ⟨G,s,h,hr⟩
 | .label l,Λ,cur,Q,G,s,a,w,h,hr=>wp_label ⟨G,s,h,hr⟩
 | .rangeFunc ..,_,_,_,_,_,_,_,_,hr=>hr.elim
 | .scope ..,_,_,_,_,_,_,_,_,hr=>hr.elim
 | .goto ..,_,_,_,_,_,_,_,_,hr=>hr.elim
 | .refuse ..,_,_,_,_,_,_,_,_,hr=>hr.elim
end
theorem aM.replicate{α β:Type}{R:α->β->Prop}{a:α}{b:β}(Bb:R a b):∀ n:Nat,aM R (List.replicate n a) (List.replicate n b)
 | 0=>trivial
 | n+1=>⟨Bb,aM.replicate Bb n⟩
theorem aM.uo{α β:Type}{R:α->β->Prop}{Z9:List α}{bs:List β}(h:aM R Z9 bs){a:α}{b:β}(Bb:R a b)(n:Nat):aM R (Z9++List.replicate n a) (bs++List.replicate n b) :=
 h.append (aM.replicate Bb n)
theorem aM.getD{α β:Type}{R:α->β->Prop}{d:α}{e:β}(YT:R d e):∀ {Z9:List α} {bs:List β},aM R Z9 bs->∀ i:Nat,R (Z9.getD i d) (bs.getD i e)
 | [],[],_,i=>by simpa using YT
 | a::Z9,b::bs,h,0=>h.1
 | a::Z9,b::bs,h,i+1=>by simpa using aM.getD YT h.2 i
 | [],_::_,h,_=>h.elim
 | _::_,[],h,_=>h.elim
section
variable {P:Program} {E:Env}
def XL(P:Program)(w:World)(S:Nat->Prop):Arg->Value->Prop
 | .own _,_=>True
 | .box _,_=>True
 | a,x=>ui P w S a x
theorem Ki{w:World}{S X:Nat->Prop}(hS:iR w S)(hX:∀ b,X b->b<w.heap.size/\¬ S b){fn:Func}{args:List Arg}{cj:List Value}(ha:aM (XL P w S) args cj)(J5:(∀ b,¬ X b)\/∀ a∈args,a.Fy=true) :
  Inv ⟨P,E,w,X,S,λ _=>none,λ _=>False,λ _=>none⟩ ⟨S,λ _=>undef,λ _=>[]⟩ (dw fn args) { tmps:=cj.toArray++Array.replicate (fn.ntmps - cj.toArray.size) undef,defers:=[] } w:=by
 have hlen:=ha.length;have M3:∀ v x,v∈args->XL P w S v x->VR ⟨P,E,w,X,S,λ _=>none,λ _=>False,λ _=>none⟩ ⟨S,λ _=>undef,λ _=>[]⟩ (dw fn args).ag w (xZ v) x:=by
  intro v x hm h;cases v with
  | val v=>exact h
  | ref v =>
   obtain⟨b,o,cs,h1,h2,h3,h4⟩:=h;exact⟨b,o,cs,h1, .inr ⟨h2,J5.elim (λ q=>⟨q b,λ z=>z⟩) λ q=>absurd (q _ hm) (by simp[Arg.Fy])⟩,h3,h4⟩
  | fn f=>exact h
  | cK v =>
   obtain⟨f,dY,l,h1,h2,h3⟩:=h;refine⟨f,dY,l,h1,h2,h3.imp λ u y _ hy=>?_⟩;cases u with
   | val v=>exact hy
   | ref v =>
    obtain⟨b,o,cs,k1,k2,k3,k4⟩:=hy;exact⟨b,o,cs,k1, .inr ⟨k2,J5.elim (λ q=>⟨q b,λ z=>z⟩) λ q=>absurd (q _ hm) (by simp[Arg.Fy])⟩,k3,k4⟩
   | fn f=>exact hy
   | cK v=>exact hy.elim
   | own v=>exact hy.elim
   | box k=>exact hy.elim
  | own v=>trivial
  | box k=>trivial
 exact {
  defers:=rfl
  size:=by simp[dw,hlen]
  aK:=bJ.refl _ _
  iY:=⟨λ b h=>(hX b h).1,λ g hg=>⟨(hS.2 g hg).1,λ q=>(hX g q).2 (hS.2 g hg).1,hS.1 g (hS.2 g hg).1,(hS.2 g hg).2⟩⟩
  dZ:=λ b _ _=>a9Q
  sX:=λ b hs=>hs
  dy:=hS.1
  aA:=λ i=>by
   have h1:aM (λ v x=>VR ⟨P,E,w,X,S,λ _=>none,λ _=>False,λ _=>none⟩ ⟨S,λ _=>undef,λ _=>[]⟩ (dw fn args).ag w v x) (args.map xZ) cj:=aM.dF _ (ha.imp λ v x hm h=>M3 v x hm h);have h2:=aM.getD (d:=AV.any) (e:=undef) (show VR ⟨P,E,w,X,S,λ _=>none,λ _=>False,λ _=>none⟩ ⟨S,λ _=>undef,λ _=>[]⟩ (dw fn args).ag w .any undef from trivial) (h1.uo (a:=AV.any) (b:=undef) (show VR ⟨P,E,w,X,S,λ _=>none,λ _=>False,λ _=>none⟩ ⟨S,λ _=>undef,λ _=>[]⟩ (dw fn args).ag w .any undef from trivial) (fn.ntmps - args.length)) i;have e1:(dw fn args).sl i=(args.map xZ++List.replicate (fn.ntmps - args.length) AV.any).getD i AV.any:=rfl;have e2:(cj.toArray++Array.replicate (fn.ntmps - cj.toArray.size) undef).getD i undef=(cj++List.replicate (fn.ntmps - args.length) undef).getD i undef:=by
    rw[a8h,a7G,<-b1t];simp[hlen]
   rw[e1,e2];exact h2
  aH:=λ id o h=>by cases h
  place:=λ id o b h=>by cases h
  apart:=λ id di o o' b h=>by cases h
  aN:=⟨(λ id τ xs h=>by cases h),(λ id τ xs h=>by cases h),(λ id τ xs b h=>by cases h),(λ id di τ aT xs cF b h=>by cases h)⟩
  root:=λ id v h=>by cases h
  fE:=λ id v h=>by cases h
  dq:=λ id v h=>by cases h
  eF:=λ id v h=>by cases h }
theorem Vn{w:World}{S:Nat->Prop}(hS:iR w S){fn:Func}{args:List Arg}{cj:List Value}(ha:aM (ui P w S) args cj) :
  Inv ⟨P,E,w,λ _=>False,S,λ _=>none,λ _=>False,λ _=>none⟩ ⟨S,λ _=>undef,λ _=>[]⟩ (dw fn args) { tmps:=cj.toArray++Array.replicate (fn.ntmps - cj.toArray.size) undef,defers:=[] } w :=
 Ki hS (λ _ h=>h.elim) (ha.imp λ v x _ h=>by
  cases v with
  | own v=>trivial
  | box k=>exact h.elim
  | _=>exact h) (.inl λ _ h=>h)
def kJ(tmps:Array Value):ResultVar->Sem Value
 | .tmp t=>pure (tmps.getD t undef)
 | .cell a t=>do loadVar t (<-asAddr (tmps.getD a undef))
theorem pf(fn:Func)(tmps:Array Value):results fn tmps=(do
  let vs <-fn.results.mapM (kJ tmps)
  pure (if h:vs.size=1 then vs[0] else .tuple vs)):=by
 unfold results;congr 1
theorem HB(hE:bo P E){c:Ctx}(hcP:c.P=P)(hcE:c.E=E){G:Gh}{s:ah}{a:Act}{w:World}(h:Inv c G s a w):∀ {rs:List ResultVar} {Ts:List TypeId} {vs:List TV},Jp E s rs Ts=some vs ->
  ∃ xs,(rs.mapM (kJ a.tmps)).run P w = .ok xs w/\aM (du w (SX G s.ag)) vs xs
 | [],[],vs,hr=>by
  simp only[Jp,a7v] at hr;subst hr;exact⟨[],by simp,af⟩
 | r::rs,T::Ts,vs,hr=>by
  simp only[Jp] at hr;split at hr
  .rename_i τ q hT;split at hr
   .rename_i x hx;split at hr
    .rename_i l hl;simp only[a7v] at hr;subst hr;obtain⟨xs,h1,h2⟩:=HB hE hcP hcE h hl;cases r with
     | tmp t =>
      refine⟨a.tmps.getD t undef::xs,by simp[a9K,kJ,h1],uq h.aN h.aH (BP λ _ _ h=>h) hx (aX h (.tmp t)),h2⟩
     | cell p t =>
      simp only at hx;split at hx
      .rename_i hb;have hb:=Nat.eq_of_beq_eq_true hb;subst hb;unfold deref at hx;split at hx
       .rename_i u hu;obtain⟨b,o,cs,k1,k2,k3,k4⟩:=nk h.aH (BP λ _ _ h=>h) hu (aX h (.tmp p));have cC:=gD hE hT k2 k3;have k1':a.tmps.getD p undef = .pointer (some ⟨b,o,none⟩):=k1;refine⟨xy τ cs::xs,?_,uq h.aN h.aH (BP λ _ _ h=>h) hx k4,h2⟩;simp only[Instr.loadAt,Instr.sureAddr,a7U,a7S,a7N] at cC;simp only[a9K,kJ,k1',asAddr,a7U,a7S,a7N,cC,h1]
       .cases hx
      .cases hx
    .cases hr
   .cases hr
  .cases hr
 | [],_::_,_,hr=>by cases hr
 | _::_,[],_,hr=>by cases hr
theorem Z6{w:World}{S:Nat->Prop}:∀ {vs:List TV} {xs:List Value},aM (du w S) vs xs->Di w S vs (if h:xs.toArray.size=1 then xs.toArray[0] else .tuple xs.toArray)
 | [],[],_=>⟨[],by simp,af⟩
 | [v],[x],h=>by simpa [Di] using h.1
 | v::u::r,x::y::z,h=>⟨x::y::z,by simp,h⟩
 | [],_::_,h=>h.elim
 | _::_,[],h=>h.elim
 | [_],_::_::_,h=>h.2.elim
 | _::_::_,[_],h=>h.2.elim
theorem PC(hE:bo P E)(gM:P.follows .mixedOrders=true){f:FuncId}{fn:Func}{bl:Code}(hf:P.funcs[f]?=some fn)(hb:fn.body=some bl)(Λ:Nat->aL){args:List Arg}{post:List TV->Prop}
  (h:rX E bl Λ 0 (sG E fn post) (dw fn args)):fO P f args post:=by
 intro w S cj hS ha;refine b1R hf hb ?_;have hinv:=Vn (P:=P) (E:=E) (fn:=fn) hS ha;refine b0U (fH (c:=⟨P,E,w,λ _=>False,S,λ _=>none,λ _=>False,λ _=>none⟩) hE gM bl Λ 0 _ _ _ _ w hinv h) ?_;have fin:∀ (e:Exit) (a:Act) (w':World),(e = .normal\/e = .ret)->(∃ G s,Inv ⟨P,E,w,λ _=>False,S,λ _=>none,λ _=>False,λ _=>none⟩ G s a w'/\sG E fn post e s) ->
   a.defers=[]/\∃ v,(results fn a.tmps).run P w' = .ok v w'/\∃ x S' res,Ending.returned v = .returned x/\post res/\bJ (λ _=>False) w w'/\(∀ b,b<w.heap.size->(S' b↔S b))/\(∀ b,S' b->b<w'.heap.size)/\Di w' S' res x:=by
  rintro e a w' he ⟨G,s,hI,hp⟩;have KG:∃ vs,Jp E s fn.results.toList fn.resultTypes.toList=some vs/\post vs:=by
   rcases he with rfl|rfl <;>
   .simp only[sG] at hp;split at hp
    .rename_i vs Bj;exact⟨vs,Bj,hp⟩
    .exact hp.elim
  obtain⟨vs,Bj,UF⟩:=KG;obtain⟨xs,h1,h2⟩:=HB hE (c:=⟨P,E,w,λ _=>False,S,λ _=>none,λ _=>False,λ _=>none⟩) rfl rfl hI Bj;refine⟨hI.defers,(if h:xs.toArray.size=1 then xs.toArray[0] else .tuple xs.toArray),?_,_,SX G s.ag,vs,rfl,UF,hI.aK,λ b hb=>?_,λ b hb=>?_,Z6 h2⟩
  .rw[pf,a9t];simp only[a7U,b1p,h1];rfl
  .constructor
   .rintro (hs|⟨id,e',τ,ys,aO,gv⟩|⟨id,τ,ys,aO,gv⟩)
    .exact (hI.dZ b hb (λ q=>q)).1 hs
    .rcases (hI.place id _ b aO gv).1 with QX|hx
     .have:w.heap.size<=b:=QX;omega
     .exact hx.elim
    .rcases (hI.aN.pl id _ _ b aO gv).1 with QX|hx
     .have:w.heap.size<=b:=QX;omega
     .exact hx.elim
   .exact λ hs => .inl ((hI.dZ b hb (λ q=>q)).2 hs)
  .rcases hb with hs|⟨id,e',τ,ys,aO,gv⟩|⟨id,τ,ys,aO,gv⟩
   .exact hI.dy b hs
   .exact (hI.place id _ b aO gv).2.2
   .exact (hI.aN.pl id _ _ b aO gv).2.2.1
 intro e a w' hq;cases e with
 | normal=>exact fin .normal a w' (.inl rfl) hq
 | ret=>exact fin .ret a w' (.inr rfl) hq
 | exit i=>obtain⟨_,_,_,hp⟩:=hq;exact hp.elim
 | goto l=>obtain⟨_,_,_,hp⟩:=hq;exact hp.elim
 | panic ch=>obtain⟨_,_,_,hp⟩:=hq;exact hp.elim
 | outgrown=>obtain⟨_,_,_,hp⟩:=hq;exact hp.elim
end
def xP(E:Env)(s:ah):List ResultVar->List TypeId->Option (List TV×List Nat)
 | [],[]=>some ([],[])
 | r::rs,T::Ts=>match ag E.ty T with
  | some (
      τ,_)=>match (match r with
    | .tmp t=>FE s.ag τ (s.eval (.tmp t))
    | .cell p t=>match Nat.beq t T with
     | true=>match oN s.ag τ (s.eval (.tmp p)) with
      | some u=>FE s.ag τ u
      | none=>none
     | false=>none) with
   | some (x,i)=>match xP E s rs Ts with
    | some (l,j)=>some (⟨τ,x⟩::l,i++j)
    | none=>none
   | none=>none
  | none=>none
 | _,_=>none
def xJ(E:Env)(fn:Func)(post:List TV->Prop)(e:Exit)(s:ah):Prop :=
 match e with
 | .ret | .normal=>match xP E s fn.results.toList fn.resultTypes.toList with
  | some (vs,ids)=>match nodupB ids with
   | true=>post vs
   | false=>False
  | none=>False
 | _=>False
section
variable {P:Program} {E:Env}
theorem HS{c:Ctx}(hE:bo c.P c.E)(hcP:c.P=P)(hcE:c.E=E){G:Gh}{s:ah}{a:Act}{w:World}(h:Inv c G s a w):∀ {rs:List ResultVar} {Ts:List TypeId} {vs:List TV} {ids:List Nat},xP E s rs Ts=some (vs,ids)->ids.Nodup ->
  ∃ xs fp,(rs.mapM (kJ a.tmps)).run P w = .ok xs w/\FJ w vs xs fp/\fp.Nodup/\∀ b∈fp,tT G s.ag ids b
 | [],[],vs,ids,hr,_=>by
  simp only[xP,a7v,a7x] at hr;obtain⟨rfl,rfl⟩:=hr;exact⟨[],[],by simp,rfl,a8F,by simp⟩
 | r::rs,T::Ts,vs,ids,hr,cX=>by
  simp only[xP] at hr;split at hr;case h_2=>cases hr
  case h_1 τ q hT =>
  split at hr;case h_2=>cases hr
  case h_1 x i hx =>
  split at hr;case h_2=>cases hr
  case h_1 l j hl =>
  simp only[a7v,a7x] at hr;obtain⟨rfl,rfl⟩:=hr;rw[a7Q] at cX;obtain⟨n1,n2,n3⟩:=cX;obtain⟨xs,fp,h1,h2,h3,h4⟩:=HS hE hcP hcE h hl n2;cases r with
  | cell p t =>
   simp only at hx;split at hx;case h_2=>cases hx
   case h_1 hb =>
   have hb:=a7w hb;subst hb;split at hx;case h_2=>cases hx
   case h_1 u hu =>
   obtain⟨b,o,cs,q1,q2,q3,q4⟩:=nk h.aH (λ _ _ h=>h) hu (aX h (.tmp p));subst hcP hcE;have cC:=gD hE hT q2 q3;have q1':a.tmps.getD p undef = .pointer (some ⟨b,o,none⟩):=q1;obtain⟨f1,k1,k2,k3⟩:=px h hx q4 n1;refine⟨xy τ cs::xs,f1++fp,?_,⟨f1,fp,rfl,k1,h2⟩,dV k2 h3 λ b hb cv=>h.iH (k3 b hb) (h4 b cv) (λ x hx y hy=>n3 x hx y hy),λ b hb=>?_⟩
   .simp only[Instr.loadAt,Instr.sureAddr,a7U,a7S,a7N] at cC;simp only[a9K,kJ,q1',asAddr,a7U,a7S,a7N,cC,h1]
   .rcases a7y.1 hb with hb|hb
    .exact (k3 b hb).mono λ k hk=>by simp[hk]
    .exact (h4 b hb).mono λ k hk=>by simp[hk]
  | tmp t =>
   obtain⟨f1,k1,k2,k3⟩:=px h hx (aX h (.tmp t)) n1;refine⟨a.tmps.getD t undef::xs,f1++fp,by simp[a9K,kJ,h1],⟨f1,fp,rfl,k1,h2⟩,dV k2 h3 λ b hb cv=>h.iH (k3 b hb) (h4 b cv) (λ x hx y hy=>n3 x hx y hy),λ b hb=>?_⟩;rcases a7y.1 hb with hb|hb
   .exact (k3 b hb).mono λ k hk=>by simp[hk]
   .exact (h4 b hb).mono λ k hk=>by simp[hk]
 | [],_::_,_,_,hr,_=>by cases hr
 | _::_,[],_,_,hr,_=>by cases hr
theorem Xl{w:World}:∀ {vs:List TV} {xs:List Value} {fp:List Nat},FJ w vs xs fp->H3 w vs (if h:xs.toArray.size=1 then xs.toArray[0] else .tuple xs.toArray) fp
 | [],[],fp,h=>⟨[],by simp,h⟩
 | [v],[x],fp,h=>by
  obtain⟨f1,f2,rfl,h1,h2⟩:=h;have h2:f2=[]:=h2;subst h2;simpa [H3] using h1
 | v::u::r,x::y::z,fp,h=>⟨x::y::z,by simp,h⟩
 | [],_::_,_,h=>h.elim
 | _::_,[],_,h=>h.elim
 | [_],_::_::_,_,h=>by obtain⟨_,_,_,_,h⟩:=h;exact h.elim
 | _::_::_,[_],_,h=>by obtain⟨_,_,_,_,h⟩:=h;exact h.elim
theorem ns:∀ {us:List TV} {id:Nat} {p:Nat×aw},p∈bT id us->id<=p.1/\p.1<id+us.length
 | [],id,p,h=>by cases h
 | u::us,id,p,h=>by
  rcases a7y.1 h with h|h
  .have:=Kc h;simp only[a7I];omega
  .have:=ns h;simp only[a7I];omega
theorem tI:∀ {us:List TV} {id:Nat},((bT id us).map (·.1)).Nodup
 | [],id=>a8F
 | u::us,id=>by
  simp only[bT,a8R];refine dV ?_ tI λ x hx sR=>?_
  .obtain⟨τ,y⟩:=u;cases τ<;>simp[eP]
  .obtain⟨p,hp,rfl⟩:=a7B.1 hx;obtain⟨q,hq,e⟩:=a7B.1 sR;have h1:=Kc hp;have h2:=ns hq;omega
theorem WH(v:TV):v.cells.length<=100:=by
 obtain⟨τ,y⟩:=v;cases τ with
 | st s =>
  show (s.cells y).length<=100;rw[aJ.fv];exact Ty.size_le (.st s)
 | _=>exact Nat.succ_le_of_lt (Nat.zero_lt_of_lt (by decide:0<100))
theorem wu{c:Ctx}{a:Act}{w:World}{S:Nat->Prop}(hR:∀ j,c.R j=none):∀ {Z9:List Arg} {xs:List Value} {fp:List Nat} {p:Nat} {G:Gh} {s:ah},Inv c G s a w->pz P w S Z9 xs fp->fp.Nodup->Fr c G s.ag w fp ->
  (∀ i x,xs[i]?=some x->a.tmps.getD (p+i) undef=x)->p+Z9.length<=s.aA.length->(∀ id o,s.ag id=some o->id<1000000+100 * p)->∃ G',Inv c G' (oG p Z9 s) a w
 | [],xs,fp,p,G,s,h,_,_,_,_,_,_=>⟨G,h⟩
 | b::Z9,[],fp,p,G,s,h,hA,_,_,_,_,_=>hA.elim
 | b::Z9,x::xs,fp,p,G,s,h,hA,cX,hF,hx,hlen,aO=>by
  obtain⟨f1,f2,rfl,hb,hA⟩:=hA;rw[a7Q] at cX;obtain⟨n1,n2,n3⟩:=cX;simp only[a7I] at hlen;have sR:∀ i y,xs[i]?=some y->a.tmps.getD (p+1+i) undef=y:=λ i y hi=>by
   have:=hx (i+1) y (by simpa using hi);rwa [show p+(i+1)=p+1+i by omega] at this
  have other:f1=[]->oG p (b::Z9) s=oG (p+1) Z9 s->∃ G',Inv c G' (oG p (b::Z9) s) a w:=λ hf e=>by
   subst hf;rw[e];exact wu hR h hA n2 (λ q hq=>hF q (by simp[hq])) sR (by omega) λ id o ho=>by have:=aO id o ho;omega
  cases b with
  | own v =>
   have hO:vL w v x f1:=hb;obtain⟨G1,I8,l1,i1,e1,t1,Ui⟩:=bf.Lq (id:=1000000+100 * p) h hO n1 (λ q hq=>hF q (by simp[hq]))
    (λ q hq=>by
     cases sP:s.ag q.1 with
     | none=>rfl
     | some o=>have h1:=aO _ o sP;have h2:=ns hq;omega) tI (λ j _=>hR j)
   have bP:ah.ag { aA:=s.aA.set p (gR (1000000+100 * p) v),aH:=bT (1000000+100 * p) v.cells++s.aH }=I8:=by
    funext i;rw[l1 i];exact oq _ _ i
   have hI:Inv c G1 { aA:=s.aA.set p (gR (1000000+100 * p) v),aH:=bT (1000000+100 * p) v.cells++s.aH } a w:=by
    unfold Inv;rw[bP,show ah.sl { aA:=s.aA.set p (gR (1000000+100 * p) v),aH:=bT (1000000+100 * p) v.cells++s.aH }=iz s.aA.length s.sl (some p) (gR (1000000+100 * p) v) from nz s.aA p _ _,
     show ({ aA:=s.aA.set p (gR (1000000+100 * p) v),aH:=bT (1000000+100 * p) v.cells++s.aH }:ah).aA.length=s.aA.length from by simp]
    exact { i1 with
     aA:=λ i=>by
      unfold iz;split
      .rename_i hi;obtain⟨e,_⟩:=hi;simp only[a7v] at e;subst e;rw[show a.tmps.getD p undef=x from hx 0 x rfl];exact t1.eQ
      .exact i1.aA i }
   obtain⟨G2,h2⟩:=wu hR hI hA n2 (by
    rw[bP];exact Ui f2 (λ q hq=>hF q (by simp[hq])) λ q hq SB=>n3 q SB q hq rfl) sR (by simp;omega) (λ id o ho=>by
     rw[bP,l1 id] at ho;unfold fS at ho;split at ho
     .rename_i o' cH;have h1:=ns (gb cH);have h2:=WH v;simp only at h1;omega
     .have:=aO id o ho;omega)
   exact⟨G2,h2⟩
  | val v=>exact other hb.1 rfl
  | ref v=>exact other hb.1 rfl
  | fn v=>exact other hb.1 rfl
  | cK v=>exact other hb.1 rfl
  | box k=>exact other hb.1 rfl
theorem pz.rU{w:World}{S:Nat->Prop}:∀ {Z9:List Arg} {xs:List Value} {fp:List Nat},pz P w S Z9 xs fp->aM (XL P w S) Z9 xs
 | [],[],_,_=>trivial
 | a::Z9,x::xs,_,h=>by
  obtain⟨f1,f2,_,h1,h2⟩:=h;refine⟨?_,pz.rU h2⟩;cases a with
  | own v=>trivial
  | box k=>exact h1.2.elim
  | _=>exact h1.2
 | [],_::_,_,h=>h.elim
 | _::_,[],_,h=>h.elim
theorem Tw{w:World}{S:Nat->Prop}(hS:iR w S){fn:Func}{args:List Arg}{cj:List Value}{fa:List Nat}(ha:pz P w S args cj fa)(J5:fa=[]\/∀ a∈args,a.Fy=true)(cX:fa.Nodup)(Sq:∀ b∈fa,b<w.heap.size/\¬ S b) :
  ∃ G,Inv ⟨P,E,w,λ b=>b∈fa,S,λ _=>none,λ _=>False,λ _=>none⟩ G (HL fn args) { tmps:=cj.toArray++Array.replicate (fn.ntmps - cj.toArray.size) undef,defers:=[] } w:=by
 have h0:=Ki (P:=P) (E:=E) (fn:=fn) hS (X:=λ b=>b∈fa) Sq ha.rU (J5.imp_left λ e b hb=>by rw[e] at hb;cases hb);have hlen:=ha.rU.length;refine wu (S:=S) (λ _=>rfl) h0 ha cX (λ b hb=>⟨.inr hb,(Sq b hb).2,(Sq b hb).1,λ i o h=>(by cases h),λ j τ xs h=>by cases h⟩) (λ i x hi=>?_) (by simp[dw]<;>omega) (λ id o h=>by cases h);rw[Nat.zero_add,Array.getD_eq_getD_getElem?,Array.getElem?_append_left (by simpa using (List.getElem?_eq_some_iff.1 hi).1)];simp[hi]
theorem Dx(hE:bo P E)(gM:P.follows .mixedOrders=true){f:FuncId}{fn:Func}{bl:Code}(hf:P.funcs[f]?=some fn)(hb:fn.body=some bl)(Λ:Nat->aL){args:List Arg}{res:List TV}{post:List TV->Prop}(UF:∀ vs,post vs->vs=res)
  (h:rX E bl Λ 0 (xJ E fn post) (HL fn args)):rS P f args res:=by
 intro w S cj fa hS ha J5 oi Sq;refine b1R hf hb ?_;obtain⟨G0,hinv⟩:=Tw (P:=P) (E:=E) (fn:=fn) hS ha J5 oi Sq;refine b0U (fH (c:=⟨P,E,w,λ b=>b∈fa,S,λ _=>none,λ _=>False,λ _=>none⟩) hE gM bl Λ 0 _ _ _ _ w hinv h) ?_;have fin:∀ (e:Exit) (a:Act) (w':World),(e = .normal\/e = .ret)->(∃ G s,Inv ⟨P,E,w,λ b=>b∈fa,S,λ _=>none,λ _=>False,λ _=>none⟩ G s a w'/\xJ E fn post e s) ->
   a.defers=[]/\∃ v,(results fn a.tmps).run P w' = .ok v w'/\∃ x fp,Ending.returned v = .returned x/\bJ (λ b=>b∈fa) w w'/\H3 w' res x fp/\fp.Nodup/\∀ b∈fp,b∈fa\/(w.heap.size<=b/\b<w'.heap.size):=by
  rintro e a w' he ⟨G,s,hI,hp⟩;have KG:∃ vs ids,xP E s fn.results.toList fn.resultTypes.toList=some (vs,ids)/\ids.Nodup/\vs=res:=by
   rcases he with rfl|rfl <;>
   .simp only[xJ] at hp;split at hp
    .rename_i vs ids Bj;split at hp
     .rename_i hn;exact⟨vs,ids,Bj,dh hn,UF vs hp⟩
     .exact hp.elim
    .exact hp.elim
  obtain⟨vs,ids,Bj,hn,rfl⟩:=KG;obtain⟨xs,fp,h1,h2,h3,h4⟩:=HS (P:=P) (E:=E) (c:=⟨P,E,w,λ b=>b∈fa,S,λ _=>none,λ _=>False,λ _=>none⟩) hE rfl rfl hI Bj hn;refine⟨hI.defers,(if h:xs.toArray.size=1 then xs.toArray[0] else .tuple xs.toArray),?_,_,fp,rfl,hI.aK,Xl h2,h3,λ b hb=>?_⟩
  .rw[pf,a9t];simp only[a7U,b1p,h1];rfl
  .obtain⟨id,hi,hq⟩:=h4 b hb;rcases hq with ⟨τ,ys,q1,q2⟩|⟨e',τ,ys,q1,q2⟩
   .obtain⟨p1,_,p3,_⟩:=hI.aN.pl id τ ys b q1 q2;exact p1.elim (λ q => .inr ⟨q,p3⟩) .inl
   .obtain⟨p1,_,p3⟩:=hI.place id _ b q1 q2;exact p1.elim (λ q => .inr ⟨q,p3⟩) .inl
 intro e a w' hq;cases e with
 | normal=>exact fin .normal a w' (.inl rfl) hq
 | ret=>exact fin .ret a w' (.inr rfl) hq
 | exit i=>obtain⟨_,_,_,hp⟩:=hq;exact hp.elim
 | goto l=>obtain⟨_,_,_,hp⟩:=hq;exact hp.elim
 | panic ch=>obtain⟨_,_,_,hp⟩:=hq;exact hp.elim
 | outgrown=>obtain⟨_,_,_,hp⟩:=hq;exact hp.elim
end
section
variable {P:Program} {E:Env}
theorem ji.congr{w:World}{S:Nat->Prop}{B B':Nat->Nat}{N:Nat}(hB:∀ j,j<N->B j=B' j):∀ {ks:List CK} {ds:List TV} {l:List Value} {fp:List Nat},(∀ j,CK.p j∈ks->j<N)->ji w S B ks ds l fp->ji w S B' ks ds l fp:=by
 intro ks;induction ks with
 | nil=>intro ds l fp _ h;cases ds<;>cases l<;>exact h
 | cons k0 ks ih =>
  intro ds l fp hp h;cases l with
  | nil=>cases k0<;>cases ds<;>cases h
  | cons x l =>
   cases k0 with
   | d τ =>
    cases ds with
    | nil=>cases h
    | cons v ds=>exact⟨h.1,ih (λ j hj=>hp j (by simp[hj])) h.2⟩
   | o τ =>
    cases ds with
    | nil=>cases h
    | cons v ds =>
     obtain⟨f1,f2,e,h1,h2⟩:=h;exact⟨f1,f2,e,h1,ih (λ j hj=>hp j (by simp[hj])) h2⟩
   | p j =>
    have h:x = .pointer (some ⟨B j,0,none⟩)/\ji w S B ks ds l fp:=by cases ds<;>exact h
    have r:=ih (λ j hj=>hp j (by simp[hj])) h.2;have e:x = .pointer (some ⟨B' j,0,none⟩):=by rw[h.1,hB j (hp j (by simp))]
    cases ds<;>exact⟨e,r⟩
theorem gf.congr{w:World}{S:Nat->Prop}{B B':Nat->Nat}{N:Nat}(hB:∀ j,j<N->B j=B' j):∀ {sh:List (List CK)} {k:Nat} {cA:List (List TV)} {fa:List Nat},k+sh.length<=N->(∀ ks∈sh,∀ j,CK.p j∈ks->j<N)->gf w S B k sh cA fa->gf w S B' k sh cA fa
 | [],k,cA,fa,_,_,h=>by cases cA<;>exact h
 | ks::sh,k,[],fa,_,_,h=>h.elim
 | ks::sh,k,ds::cA,fa,hk,hp,h=>by
  obtain⟨l,t,f1,f2,e,h1,h2,h3⟩:=h;simp only[a7I] at hk;exact⟨l,t,f1,f2,e,by rw[<-hB k (by omega)];exact h1,h2.congr hB (hp ks (by simp)),gf.congr hB (by omega) (λ ks' fg=>hp ks' (by simp[fg])) h3⟩
theorem gf.len{w:World}{S:Nat->Prop}{B:Nat->Nat}:∀ {sh:List (List CK)} {k:Nat} {cA:List (List TV)} {fa:List Nat},gf w S B k sh cA fa->sh.length=cA.length
 | [],_,[],_,_=>rfl
 | [],_,_::_,_,h=>h.elim
 | _::_,_,[],_,h=>h.elim
 | ks::sh,k,ds::cA,fa,h=>by
  obtain⟨l,t,f1,f2,e,h1,h2,h3⟩:=h;simp[gf.len h3]
def mq(fn:Func)(args:List Arg)(τ:Ty)(xs:List τ.den):ah:={ aA:=args.map xZ++(.aC 50::List.replicate (fn.ntmps - (args.length+1)) .any),aH:=[(50, .aC τ xs)] }
def CB(τ:Ty)(post:List τ.den->Prop)(e:Exit)(s:ah):Prop :=
 match e with
 | .ret | .normal=>match s.ag 50 with
  | some (.aC aT ys)=>match TV.Z9 (.slice τ) ⟨.slice aT,ys⟩ with
   | some ys=>post ys
   | none=>False
  | _=>False
 | _=>False
theorem MF(hE:bo P E)(gM:P.follows .mixedOrders=true){f:FuncId}{fn:Func}{bl:Code}(hf:P.funcs[f]?=some fn)(hb:fn.body=some bl)(Λ:Nat->aL){args:List Arg}{τ:Ty}{xs ys:List τ.den}(hr:fn.results.size=0)(ID:∀ k,Arg.box k∉args)
  (IG:args.length+1<=fn.ntmps) (h:rX E bl Λ 0 (CB τ λ zs=>zs=ys) (mq fn args τ xs)):Cc P f args τ xs ys:=by
 intro w S cj v fp hS ha hO cX lg;refine b1R hf hb ?_;have hlen:=ha.length;have h0:bf ⟨P,E,w,λ b=>b∈fp,S,λ _=>none,λ _=>False,λ _=>none⟩ ⟨S,λ _=>undef,λ _=>[]⟩ (λ _ => .any) (mq fn args τ xs).aA.length (λ _=>none) { tmps:=(cj++[v]).toArray++Array.replicate (fn.ntmps - (cj++[v]).toArray.size) undef,defers:=[] } w:={
  defers:=rfl
  size:=by simp[mq,hlen];omega
  aK:=bJ.refl _ _
  iY:=⟨λ b hb=>(lg b hb).1,λ g hg=>⟨(hS.2 g hg).1,λ q=>(lg g q).2 (hS.2 g hg).1,hS.1 g (hS.2 g hg).1,(hS.2 g hg).2⟩⟩
  dZ:=λ b _ _=>a9Q
  sX:=λ b h=>h
  dy:=hS.1
  aA:=λ _=>trivial
  aH:=λ id o h=>by cases h
  place:=λ id o b h=>by cases h
  apart:=λ id di o o' b h=>by cases h
  aN:=⟨(λ id τ xs h=>by cases h),(λ id τ xs h=>by cases h),(λ id τ xs b h=>by cases h),(λ id di τ aT xs cF b h=>by cases h)⟩
  root:=λ id v h=>by cases h
  fE:=λ id v h=>by cases h
  dq:=λ id v h=>by cases h
  eF:=λ id v h=>by cases h }
 obtain⟨G1,I8,l1,i1,e1,t1,_⟩:=h0.Lq (id:=50) (v:=⟨.slice τ,xs⟩) hO cX (λ b hb=>⟨.inr hb,(lg b hb).2,(lg b hb).1,λ i o h=>(by cases h),λ j τ xs h=>by cases h⟩) (λ _ _=>rfl) tI (λ _ _=>rfl);have a2v:(mq fn args τ xs).ag=I8:=by
  funext i;rw[l1 i];show ag [(50, .aC τ xs)] i=fS (bT 50 (TV.cells ⟨.slice τ,xs⟩)) (λ _=>none) i;unfold fS;show _=match ag [(50,aw.aC τ xs)] i with
   | some o=>some o
   | none=>none
  cases ag [(50,aw.aC τ xs)] i<;>rfl
 have hC1:C1 ⟨P,E,w,λ b=>b∈fp,S,λ _=>none,λ _=>False,λ _=>none⟩ G1 I8 w (.aC 50) v:=t1;obtain⟨W9,l,hl,wa⟩:=hC1;have a7p:I8 50=some (.aC τ xs):=by rw[<-a2v];rfl
 let R:Nat->Option Value:=λ id=>if id=50 then some v else none
 have hGS:G1.S=S:=e1.S;have hinv:Inv ⟨P,E,w,λ b=>b∈fp,S,R,λ _=>False,λ _=>none⟩ G1 (mq fn args τ xs) { tmps:=(cj++[v]).toArray++Array.replicate (fn.ntmps - (cj++[v]).toArray.size) undef,defers:=[] } w:=by
  unfold Inv;rw[a2v];exact {
   defers:=i1.defers,size:=i1.size,aK:=i1.aK,iY:=i1.iY,dZ:=i1.dZ,sX:=i1.sX,dy:=i1.dy
   aA:=λ i=>by
    have M3:∀ u z,u∈args->Pc P w S (λ b=>b∈fp) (λ _=>0) u z->VR ⟨P,E,w,λ b=>b∈fp,S,R,λ _=>False,λ _=>none⟩ G1 I8 w (xZ u) z:=by
     intro u z hm hz;cases u with
     | val u=>exact du.mono (G:=⟨S,G1.η,G1.φ⟩) (G':=G1) hz (λ b hb=>by rw[hGS];exact hb) (λ _ _=>rfl)
     | ref u =>
      obtain⟨b,o,cs,h1,h2,h3,h4,h5⟩:=hz;exact⟨b,o,cs,h1, .inr ⟨h2,h3,λ z=>z⟩,h4,Rd.aK (λ b hb=>by rw[hGS];exact hb) (λ _ _=>rfl) _ h5⟩
     | fn f=>exact hz
     | cK u =>
      obtain⟨f,dY,l,h1,h2,h3⟩:=hz;refine⟨f,dY,l,h1,h2,h3.imp λ u z _ hz=>?_⟩;cases u with
      | val u=>exact du.mono (G:=⟨S,G1.η,G1.φ⟩) (G':=G1) hz (λ b hb=>by rw[hGS];exact hb) (λ _ _=>rfl)
      | ref u =>
       obtain⟨b,o,cs,h1,h2,h3,h4,h5⟩:=hz;exact⟨b,o,cs,h1, .inr ⟨h2,h3,λ z=>z⟩,h4,Rd.aK (λ b hb=>by rw[hGS];exact hb) (λ _ _=>rfl) _ h5⟩
      | fn f=>exact hz
      | _=>exact hz.elim
     | own u=>exact hz.elim
     | box k=>exact absurd hm (ID k)
    have h1:aM (λ u z=>VR ⟨P,E,w,λ b=>b∈fp,S,R,λ _=>False,λ _=>none⟩ G1 I8 w u z) (args.map xZ) cj:=aM.dF _ (ha.imp λ u z hm hz=>M3 u z hm hz);have h2:aM (λ u z=>VR ⟨P,E,w,λ b=>b∈fp,S,R,λ _=>False,λ _=>none⟩ G1 I8 w u z) (args.map xZ++[.aC 50]) (cj++[v]):=h1.append ⟨⟨W9,l,hl,wa⟩,af⟩;have h3:=aM.getD (d:=AV.any) (e:=undef) (show VR ⟨P,E,w,λ b=>b∈fp,S,R,λ _=>False,λ _=>none⟩ G1 I8 w .any undef from trivial) (h2.uo (a:=AV.any) (b:=undef) (show VR ⟨P,E,w,λ b=>b∈fp,S,R,λ _=>False,λ _=>none⟩ G1 I8 w .any undef from trivial) (fn.ntmps - (args.length+1))) i;have e1:(mq fn args τ xs).sl i=(args.map xZ++[AV.aC 50]++List.replicate (fn.ntmps - (args.length+1)) AV.any).getD i AV.any:=by
     rw[a8c];rfl
    have e2:((cj++[v]).toArray++Array.replicate (fn.ntmps - (cj++[v]).toArray.size) undef).getD i undef=(cj++[v]++List.replicate (fn.ntmps - (args.length+1)) undef).getD i undef:=by
     rw[a8h,a7G,<-b1t];simp[hlen]
    rw[e1];show VR _ _ _ _ _ (((cj++[v]).toArray++Array.replicate (fn.ntmps - (cj++[v]).toArray.size) undef).getD i undef);rw[e2];exact h3
   aH:=i1.aH,place:=i1.place,apart:=i1.apart
   aN:=⟨i1.aN.tr,i1.aN.nd,i1.aN.pl,i1.aN.ap⟩
   root:=λ id v' hr ht=>by
    simp only[R] at hr;split at hr
    .rename_i e;simp only[a7v] at hr;subst e hr;exact⟨l,hl⟩
    .cases hr
   dq:=λ id b hr=>by cases hr
   eF:=λ id b hr=>by cases hr
   fE:=λ id v' hr=>by
    simp only[R] at hr;split at hr
    .omega
    .cases hr }
 refine b0U (fH (c:=⟨P,E,w,λ b=>b∈fp,S,R,λ _=>False,λ _=>none⟩) hE gM bl Λ 0 _ _ _ _ w hinv h) ?_;have fin:∀ (e:Exit) (a:Act) (w':World),(e = .normal\/e = .ret)->(∃ G s,Inv ⟨P,E,w,λ b=>b∈fp,S,R,λ _=>False,λ _=>none⟩ G s a w'/\CB τ (λ zs=>zs=ys) e s) ->
   a.defers=[]/\∃ u,(results fn a.tmps).run P w' = .ok u w'/\∃ r,Ending.returned u = .returned r/\bJ (λ b=>b∈fp) w w'/\∃ A2,vL w' ⟨.slice τ,ys⟩ v A2/\A2.Nodup/\∀ b∈A2,b∈fp\/(w.heap.size<=b/\b<w'.heap.size):=by
  rintro e a w' he ⟨G,s,hI,hp⟩;have KG:s.ag 50=some (.aC τ ys):=by
   rcases he with rfl|rfl <;>
   .simp only[CB] at hp;split at hp
    .rename_i aT zs hz;split at hp
     .rename_i zs' IK;have:=TV.aR IK;simp only[TV.mk.injEq,Ty.slice.injEq] at this;obtain⟨rfl,h2⟩:=this;have h2:=b0k h2;subst h2;rw[hz,hp]
     .exact hp.elim
    .exact hp.elim
  have PS:(results fn a.tmps).run P w' = .ok (.tuple #[]) w':=by
   have:fn.results = #[]:=a9v hr;rw[pf,this,a9t];simp
  obtain⟨l',mg⟩:=hI.root 50 v (by simp[R]) (by rw[KG];rfl);have qf:=Ow.UZ (hI.aN.tr 50 τ ys KG) mg;refine⟨hI.defers,_,PS,_,rfl,hI.aK,G.φ 50,qf,hI.aN.nd 50 τ ys KG,λ b hb=>?_⟩;obtain⟨p1,_,p3,_⟩:=hI.aN.pl 50 τ ys b KG hb;exact p1.elim (λ q => .inr ⟨q,p3⟩) .inl
 intro e a w' hq;cases e with
 | normal=>exact fin .normal a w' (.inl rfl) hq
 | ret=>exact fin .ret a w' (.inr rfl) hq
 | exit i=>obtain⟨_,_,_,hp⟩:=hq;exact hp.elim
 | goto l=>obtain⟨_,_,_,hp⟩:=hq;exact hp.elim
 | panic ch=>obtain⟨_,_,_,hp⟩:=hq;exact hp.elim
 | outgrown=>obtain⟨_,_,_,hp⟩:=hq;exact hp.elim
end
def yO:List (Nat×Ty×Nat×Nat) :=
 [(2,(.int .i64),0,0),
  (3,(.int .i64),0,0),
  (4, .bool,0,0),
  (5,(.int .u8),0,0),
  (9, .str,0,0),
  (12,(.int .u64),0,0),
  (23,(.st .sig),0,0),
  (24,(.slice (.st .expr)),40,26),
  (26,(.st .expr),0,0),
  (31,(.st .sig),0,0),
  (33,(.slice (.st .expr)),40,36),
  (36,(.st .expr),0,0),
  (56,(.slice (.slice .bool)),24,69),
  (57,(.slice (.slice (.slice (.int .i64)))),24,67),
  (59,(.st .automaton),0,0),
  (67,(.slice (.slice (.int .i64))),24,68),
  (68,(.slice (.int .i64)),8,2),
  (69,(.slice .bool),1,4),
  (82,(.st .word),0,0),
  (101,(.slice (.st .reached)),40,105),
  (103,(.st .arr2),0,0),
  (105,(.st .reached),0,0),
  (118,(.slice (.int .u8)),1,5),
  (132,(.int .u64),0,0),
  (152,(.slice .str),16,9),
  (172,(.int .u64),0,0)]
def LF:List (Nat×Ty) :=
 [(44,(.st .expr)),(63,(.st .automaton)),(129,(.slice (.st .expr))),(150,(.int .u8)),(182,(.int .i64))]
def Hk:List (Nat×Ty×Ty):=[(88,(.int .i64),(.int .i64)),(116, .str,(.int .i64)),(134, .str, .bool),(142,(.st .arr2), .bool)]
def Lu:List Nat:=[23,31]
abbrev mL:Nat:=2
abbrev FM:Nat:=4
abbrev Jw:Nat:=23
abbrev Ay:Nat:=24
abbrev rh:Nat:=26
abbrev eh:Nat:=36
abbrev FO:Nat:=67
abbrev LX:Nat:=68
abbrev Pf:Nat:=69
abbrev lF:Nat:=105
noncomputable abbrev prog:Program:=Tryz.prog
def rN(E:Env):((yO.all λ r=>nC prog { E with ty:=yO,Rv:=LF,Hj:=Hk,cmp:=Lu } r.1 r.2.1 r.2.2.1 r.2.2.2)&&Hk.all λ r=>Nx prog { E with ty:=yO,Rv:=LF,Hj:=Hk,cmp:=Lu } r.1 r.2.1 r.2.2)=true:=by kernel_rfl
def pe:prog.follows .mixedOrders=true:=Checked.mixed Tryz.checked
def bm(f:Func):Code:=match f.body with
 | some c=>c
 | none => .skip
abbrev fX:Nat:=3
noncomputable abbrev fV:Func:=Tryz.f3
def jB:prog.funcs[fX]?=some fV:=Tryz.func3
def pB:fV.body=some (bm fV):=by kernel_rfl
abbrev qA:Nat:=5
noncomputable abbrev pM:Func:=Tryz.f5
def jY:prog.funcs[qA]?=some pM:=Tryz.func5
def Ed:pM.body=some (bm pM):=by kernel_rfl
abbrev tC:Nat:=6
noncomputable abbrev ss:Func:=Tryz.f6
def lI:prog.funcs[tC]?=some ss:=Tryz.func6
def F5:ss.body=some (bm ss):=by kernel_rfl
abbrev tF:Nat:=7
noncomputable abbrev ma:Func:=Tryz.f7
def qQ:prog.funcs[tF]?=some ma:=Tryz.func7
def z8:ma.body=some (bm ma):=by kernel_rfl
abbrev DN:Nat:=8
noncomputable abbrev vT:Func:=Tryz.f8
def AE:prog.funcs[DN]?=some vT:=Tryz.func8
def Ih:vT.body=some (bm vT):=by kernel_rfl
abbrev qB:Nat:=9
noncomputable abbrev pN:Func:=Tryz.f9
def jZ:prog.funcs[qB]?=some pN:=Tryz.func9
def Ee:pN.body=some (bm pN):=by kernel_rfl
abbrev tD:Nat:=10
noncomputable abbrev su:Func:=Tryz.f10
def lJ:prog.funcs[tD]?=some su:=Tryz.func10
def F6:su.body=some (bm su):=by kernel_rfl
abbrev tv:Nat:=11
noncomputable abbrev lX:Func:=Tryz.f11
def qM:prog.funcs[tv]?=some lX:=Tryz.func11
def zX:lX.body=some (bm lX):=by kernel_rfl
abbrev qz:Nat:=12
noncomputable abbrev pL:Func:=Tryz.f12
def jX:prog.funcs[qz]?=some pL:=Tryz.func12
def Ec:pL.body=some (bm pL):=by kernel_rfl
abbrev tB:Nat:=13
noncomputable abbrev sq:Func:=Tryz.f13
def lH:prog.funcs[tB]?=some sq:=Tryz.func13
def F4:sq.body=some (bm sq):=by kernel_rfl
abbrev DP:Nat:=16
noncomputable abbrev vV:Func:=Tryz.f16
def AG:prog.funcs[DP]?=some vV:=Tryz.func16
def Ij:vV.body=some (bm vV):=by kernel_rfl
abbrev qJ:Nat:=17
noncomputable abbrev qa:Func:=Tryz.f17
def wM:prog.funcs[qJ]?=some qa:=Tryz.func17
def Et:qa.body=some (bm qa):=by kernel_rfl
abbrev qG:Nat:=18
noncomputable abbrev pX:Func:=Tryz.f18
def wK:prog.funcs[qG]?=some pX:=Tryz.func18
def Eo:pX.body=some (bm pX):=by kernel_rfl
abbrev np:Nat:=19
noncomputable abbrev sB:Func:=Tryz.f19
def lK:prog.funcs[np]?=some sB:=Tryz.func19
def F8:sB.body=some (bm sB):=by kernel_rfl
abbrev xE:Nat:=20
noncomputable abbrev nW:Func:=Tryz.f20
def ux:prog.funcs[xE]?=some nW:=Tryz.func20
def CU:nW.body=some (bm nW):=by kernel_rfl
abbrev tE:Nat:=21
noncomputable abbrev l9:Func:=Tryz.f21
def qP:prog.funcs[tE]?=some l9:=Tryz.func21
def z7:l9.body=some (bm l9):=by kernel_rfl
abbrev tA:Nat:=22
noncomputable abbrev lZ:Func:=Tryz.f22
def qO:prog.funcs[tA]?=some lZ:=Tryz.func22
def zZ:lZ.body=some (bm lZ):=by kernel_rfl
abbrev xB:Nat:=23
noncomputable abbrev nS:Func:=Tryz.f23
def uu:prog.funcs[xB]?=some nS:=Tryz.func23
def CO:nS.body=some (bm nS):=by kernel_rfl
abbrev Hm:Nat:=24
noncomputable abbrev yj:Func:=Tryz.f24
def Dm:prog.funcs[Hm]?=some yj:=Tryz.func24
def Ku:yj.body=some (bm yj):=by kernel_rfl
abbrev DM:Nat:=25
noncomputable abbrev vR:Func:=Tryz.f25
def AD:prog.funcs[DM]?=some vR:=Tryz.func25
def Ie:vR.body=some (bm vR):=by kernel_rfl
abbrev BC:Nat:=26
noncomputable abbrev sg:Func:=Tryz.f26
def yS:prog.funcs[BC]?=some sg:=Tryz.func26
def FZ:sg.body=some (bm sg):=by kernel_rfl
abbrev tu:Nat:=27
noncomputable abbrev lW:Func:=Tryz.f27
def qL:prog.funcs[tu]?=some lW:=Tryz.func27
def zW:lW.body=some (bm lW):=by kernel_rfl
abbrev BJ:Nat:=33
noncomputable abbrev sC:Func:=Tryz.f33
def yX:prog.funcs[BJ]?=some sC:=Tryz.func33
def F9:sC.body=some (bm sC):=by kernel_rfl
abbrev qC:Nat:=34
noncomputable abbrev pP:Func:=Tryz.f34
def j0:prog.funcs[qC]?=some pP:=Tryz.func34
def Eg:pP.body=some (bm pP):=by kernel_rfl
abbrev oz:Nat:=35
noncomputable abbrev nY:Func:=Tryz.f35
def jl:prog.funcs[oz]?=some nY:=Tryz.func35
def CW:nY.body=some (bm nY):=by kernel_rfl
abbrev qE:Nat:=36
noncomputable abbrev pT:Func:=Tryz.f36
def kd:prog.funcs[qE]?=some pT:=Tryz.func36
def Ek:pT.body=some (bm pT):=by kernel_rfl
abbrev qI:Nat:=37
noncomputable abbrev p9:Func:=Tryz.f37
def kg:prog.funcs[qI]?=some p9:=Tryz.func37
def Es:p9.body=some (bm p9):=by kernel_rfl
abbrev zP:Nat:=38
noncomputable abbrev qc:Func:=Tryz.f38
def wN:prog.funcs[zP]?=some qc:=Tryz.func38
def Eu:qc.body=some (bm qc):=by kernel_rfl
abbrev vB:Nat:=39
noncomputable abbrev mU:Func:=Tryz.f39
def rW:prog.funcs[vB]?=some mU:=Tryz.func39
def AK:mU.body=some (bm mU):=by kernel_rfl
abbrev xA:Nat:=40
noncomputable abbrev nR:Func:=Tryz.f40
def ur:prog.funcs[xA]?=some nR:=Tryz.func40
def CN:nR.body=some (bm nR):=by kernel_rfl
abbrev Hl:Nat:=41
noncomputable abbrev yh:Func:=Tryz.f41
def Dl:prog.funcs[Hl]?=some yh:=Tryz.func41
def Ks:yh.body=some (bm yh):=by kernel_rfl
abbrev yD:Nat:=42
noncomputable abbrev yi:Func:=Tryz.f42
def oI:prog.funcs[yD]?=some yi:=Tryz.func42
def Kt:yi.body=some (bm yi):=by kernel_rfl
abbrev tz:Nat:=43
noncomputable abbrev sn:Func:=Tryz.f43
def lG:prog.funcs[tz]?=some sn:=Tryz.func43
def F2:sn.body=some (bm sn):=by kernel_rfl
abbrev pd:Nat:=44
noncomputable abbrev jC:Func:=Tryz.f44
def nI:prog.funcs[pd]?=some jC:=Tryz.func44
def wO:jC.body=some (bm jC):=by kernel_rfl
abbrev tw:Nat:=45
noncomputable abbrev lY:Func:=Tryz.f45
def qN:prog.funcs[tw]?=some lY:=Tryz.func45
def zY:lY.body=some (bm lY):=by kernel_rfl
abbrev zN:Nat:=46
noncomputable abbrev pW:Func:=Tryz.f46
def wJ:prog.funcs[zN]?=some pW:=Tryz.func46
def En:pW.body=some (bm pW):=by kernel_rfl
abbrev ra:Nat:=51
noncomputable abbrev kZ:Func:=Tryz.f51
def oW:prog.funcs[ra]?=some kZ:=Tryz.func51
def yb:kZ.body=some (bm kZ):=by kernel_rfl
abbrev zH:Nat:=53
noncomputable abbrev pG:Func:=Tryz.f53
def wE:prog.funcs[zH]?=some pG:=Tryz.func53
def D7:pG.body=some (bm pG):=by kernel_rfl
abbrev DO:Nat:=55
noncomputable abbrev vU:Func:=Tryz.f55
def AF:prog.funcs[DO]?=some vU:=Tryz.func55
def Ii:vU.body=some (bm vU):=by kernel_rfl
abbrev BH:Nat:=56
noncomputable abbrev sA:Func:=Tryz.f56
def yW:prog.funcs[BH]?=some sA:=Tryz.func56
def F7:sA.body=some (bm sA):=by kernel_rfl
abbrev zL:Nat:=57
noncomputable abbrev pO:Func:=Tryz.f57
def wH:prog.funcs[zL]?=some pO:=Tryz.func57
def Ef:pO.body=some (bm pO):=by kernel_rfl
abbrev jN:Nat:=58
noncomputable abbrev jD:Func:=Tryz.f58
def fP:prog.funcs[jN]?=some jD:=Tryz.func58
def wP:jD.body=some (bm jD):=by kernel_rfl
abbrev tH:Nat:=59
noncomputable abbrev MA:Func:=Tryz.f59
def Kq:prog.funcs[tH]?=some MA:=Tryz.func59
abbrev tG:Nat:=60
noncomputable abbrev sD:Func:=Tryz.f60
def lL:prog.funcs[tG]?=some sD:=Tryz.func60
def Ga:sD.body=some (bm sD):=by kernel_rfl
abbrev zO:Nat:=61
noncomputable abbrev pY:Func:=Tryz.f61
def wL:prog.funcs[zO]?=some pY:=Tryz.func61
def Ep:pY.body=some (bm pY):=by kernel_rfl
abbrev xG:Nat:=62
noncomputable abbrev oa:Func:=Tryz.f62
def uz:prog.funcs[xG]?=some oa:=Tryz.func62
def CY:oa.body=some (bm oa):=by kernel_rfl
abbrev xF:Nat:=63
noncomputable abbrev nX:Func:=Tryz.f63
def uy:prog.funcs[xF]?=some nX:=Tryz.func63
def CV:nX.body=some (bm nX):=by kernel_rfl
abbrev BK:Nat:=64
noncomputable abbrev sE:Func:=Tryz.f64
def yY:prog.funcs[BK]?=some sE:=Tryz.func64
def Gb:sE.body=some (bm sE):=by kernel_rfl
abbrev BG:Nat:=65
noncomputable abbrev so:Func:=Tryz.f65
def yV:prog.funcs[BG]?=some so:=Tryz.func65
def F3:so.body=some (bm so):=by kernel_rfl
abbrev zJ:Nat:=66
noncomputable abbrev Ky:Func:=Tryz.f66
def H6:prog.funcs[zJ]?=some Ky:=Tryz.func66
abbrev qy:Nat:=67
noncomputable abbrev pK:Func:=Tryz.f67
def jW:prog.funcs[qy]?=some pK:=Tryz.func67
def Eb:pK.body=some (bm pK):=by kernel_rfl
abbrev xD:Nat:=68
noncomputable abbrev nV:Func:=Tryz.f68
def uw:prog.funcs[xD]?=some nV:=Tryz.func68
def CT:nV.body=some (bm nV):=by kernel_rfl
abbrev ow:Nat:=69
noncomputable abbrev nT:Func:=Tryz.f69
def jk:prog.funcs[ow]?=some nT:=Tryz.func69
def CQ:nT.body=some (bm nT):=by kernel_rfl
abbrev BD:Nat:=70
noncomputable abbrev si:Func:=Tryz.f70
def yT:prog.funcs[BD]?=some si:=Tryz.func70
def F0:si.body=some (bm si):=by kernel_rfl
abbrev lh:Nat:=71
noncomputable abbrev kY:Func:=Tryz.f71
def gi:prog.funcs[lh]?=some kY:=Tryz.func71
def ya:kY.body=some (bm kY):=by kernel_rfl
abbrev DL:Nat:=72
noncomputable abbrev vQ:Func:=Tryz.f72
def AA:prog.funcs[DL]?=some vQ:=Tryz.func72
def Ic:vQ.body=some (bm vQ):=by kernel_rfl
abbrev zG:Nat:=73
noncomputable abbrev pF:Func:=Tryz.f73
def wD:prog.funcs[zG]?=some pF:=Tryz.func73
def D6:pF.body=some (bm pF):=by kernel_rfl
abbrev nm:Nat:=74
noncomputable abbrev mS:Func:=Tryz.f74
def iB:prog.funcs[nm]?=some mS:=Tryz.func74
def AI:mS.body=some (bm mS):=by kernel_rfl
abbrev vA:Nat:=75
noncomputable abbrev mT:Func:=Tryz.f75
def rV:prog.funcs[vA]?=some mT:=Tryz.func75
def AJ:mT.body=some (bm mT):=by kernel_rfl
abbrev oA:Nat:=76
noncomputable abbrev nZ:Func:=Tryz.f76
def jm:prog.funcs[oA]?=some nZ:=Tryz.func76
def CX:nZ.body=some (bm nZ):=by kernel_rfl
abbrev xC:Nat:=79
noncomputable abbrev nU:Func:=Tryz.f79
def uv:prog.funcs[xC]?=some nU:=Tryz.func79
def CS:nU.body=some (bm nU):=by kernel_rfl
abbrev qx:Nat:=80
noncomputable abbrev pI:Func:=Tryz.f80
def jV:prog.funcs[qx]?=some pI:=Tryz.func80
def D9:pI.body=some (bm pI):=by kernel_rfl
abbrev BL:Nat:=87
noncomputable abbrev sF:Func:=Tryz.f87
def yZ:prog.funcs[BL]?=some sF:=Tryz.func87
def Gc:sF.body=some (bm sF):=by kernel_rfl
abbrev DQ:Nat:=88
noncomputable abbrev vW:Func:=Tryz.f88
def AH:prog.funcs[DQ]?=some vW:=Tryz.func88
def Ik:vW.body=some (bm vW):=by kernel_rfl
abbrev BF:Nat:=90
noncomputable abbrev Mz:Func:=Tryz.f90
def Kp:prog.funcs[BF]?=some Mz:=Tryz.func90
abbrev BE:Nat:=94
noncomputable abbrev sj:Func:=Tryz.f94
def yU:prog.funcs[BE]?=some sj:=Tryz.func94
def F1:sj.body=some (bm sj):=by kernel_rfl
abbrev qH:Nat:=95
noncomputable abbrev pZ:Func:=Tryz.f95
def kf:prog.funcs[qH]?=some pZ:=Tryz.func95
def Er:pZ.body=some (bm pZ):=by kernel_rfl
abbrev zM:Nat:=96
noncomputable abbrev pV:Func:=Tryz.f96
def wI:prog.funcs[zM]?=some pV:=Tryz.func96
def Em:pV.body=some (bm pV):=by kernel_rfl
abbrev qF:Nat:=97
noncomputable abbrev pU:Func:=Tryz.f97
def ke:prog.funcs[qF]?=some pU:=Tryz.func97
def El:pU.body=some (bm pU):=by kernel_rfl
abbrev qw:Nat:=99
noncomputable abbrev pH:Func:=Tryz.f99
def jU:prog.funcs[qw]?=some pH:=Tryz.func99
def D8:pH.body=some (bm pH):=by kernel_rfl
abbrev wj:Nat:=100
noncomputable abbrev vS:Func:=Tryz.f100
def mN:prog.funcs[wj]?=some vS:=Tryz.func100
def Ig:vS.body=some (bm vS):=by kernel_rfl
abbrev lT:Nat:=103
noncomputable abbrev pQ:Func:=Tryz.f103
def j8:prog.funcs[lT]?=some pQ:=Tryz.func103
def Eh:pQ.body=some (bm pQ):=by kernel_rfl
abbrev lU:Nat:=104
noncomputable abbrev pS:Func:=Tryz.f104
def kc:prog.funcs[lU]?=some pS:=Tryz.func104
def Ej:pS.body=some (bm pS):=by kernel_rfl
abbrev qD:Nat:=109
noncomputable abbrev pR:Func:=Tryz.f109
def j9:prog.funcs[qD]?=some pR:=Tryz.func109
def Ei:pR.body=some (bm pR):=by kernel_rfl
abbrev zI:Nat:=111
noncomputable abbrev pJ:Func:=Tryz.f111
def wF:prog.funcs[zI]?=some pJ:=Tryz.func111
def Ea:pJ.body=some (bm pJ):=by kernel_rfl
abbrev zK:Nat:=114
noncomputable abbrev Kz:Func:=Tryz.f114
def H7:prog.funcs[zK]?=some Kz:=Tryz.func114
abbrev ov:Nat:=126
noncomputable abbrev nQ:Func:=Tryz.f126
def jj:prog.funcs[ov]?=some nQ:=Tryz.func126
def CM:nQ.body=some (bm nQ):=by kernel_rfl
def Rm:Nat->List Arg->Option (Vc×Vx):=λ _ _=>none
def ND:∀ f args pre cells,Rm f args=some (pre,cells)->pre.ok->iQ prog f/\XT prog f args cells:=λ _ _ _ _ h=>by cases h
abbrev bu{α:Type}[SizeOf α](x:α):Nat:=SizeOf.sizeOf x
def cf{α:Type}[SizeOf α](d:α):∀ (xs:List α) (i:Nat),i<xs.length->bu (xs.getD i d)<bu xs
 | [],i,h=>by simp at h
 | x::xs,0,h=>by simp[bu];omega
 | x::xs,i+1,h=>by
  have:=cf d xs i (by simpa using h);simp[bu] at this ⊢;omega
def er(e:J):bu e.O<bu e:=by
 cases e;simp[bu];omega
inductive PK where
 | v (τ:Ty)
 | r (τ:Ty)
 | f
 | c (ps:List Ty) (r:Ty)
 | o (τ:Ty)
 | b (k:Nat)
@[reducible] def KT:List PK->Type 1
 | []=>ULift (Vc×List TV)
 | .v τ::l=>τ.den->KT l
 | .r τ::l=>τ.den->KT l
 | .f::l=>FuncId->KT l
 | .c ps r::l=>FN ps r->KT l
 | .o τ::l=>τ.den->KT l
 | .b _::l=>KT l
def cT:(l:List PK)->KT l->List Arg->Option (Vc×List TV)
 | [],x,[]=>some x.down
 | .v τ::l,g, .val a::zs=>match a.Z9 τ with
  | some x=>cT l (g x) zs
  | none=>none
 | .r τ::l,g, .ref a::zs=>match a.Z9 τ with
  | some x=>cT l (g x) zs
  | none=>none
 | .f::l,g, .fn a::zs=>cT l (g a) zs
 | .c ps r::l,g, .cK a::zs=>match a.Z9 ps r with
  | some x=>cT l (g x) zs
  | none=>none
 | .o τ::l,g, .own a::zs=>match a.Z9 τ with
  | some x=>cT l (g x) zs
  | none=>none
 | _,_,_=>none
def RV(P:Program)(f:FuncId):(l:List PK)->KT l->List Arg->Prop
 | [],x,acc=>x.down.1.ok->fO P f acc (·=x.down.2)
 | .v τ::l,g,acc=>∀ x,RV P f l (g x) (acc++[.val ⟨τ,x⟩])
 | .r τ::l,g,acc=>∀ x,RV P f l (g x) (acc++[.ref ⟨τ,x⟩])
 | .f::l,g,acc=>∀ x,RV P f l (g x) (acc++[.fn x])
 | .c ps r::l,g,acc=>∀ x,RV P f l (g x) (acc++[.cK ⟨ps,r,x⟩])
 | .o τ::l,g,acc=>∀ x,RV P f l (g x) (acc++[.own ⟨τ,x⟩])
 | .b _::_,_,_=>True
def oC{P:Program}{f:FuncId}:∀ (l:List PK) (g:KT l) (acc zs:List Arg) (pre:Vc) (res:List TV),RV P f l g acc->cT l g zs=some (pre,res)->pre.ok->fO P f (acc++zs) (·=res)
 | [],g,acc,zs,pre,res,h,e,hp=>by
  cases zs with
  | nil =>
   simp only[cT,a7v] at e;have h':g.down.1.ok->fO P f acc (·=g.down.2):=h;rw[e] at h';rw[a8z];exact h' hp
  | cons a zs=>simp[cT] at e
 | .v τ::l,g,acc,zs,pre,res,h,e,hp=>by
  cases zs with
  | nil=>simp[cT] at e
  | cons a zs =>
   cases a with
   | val a =>
    rw[cT] at e;split at e
    .rename_i x hx;have:=oC l (g x) (acc++[.val ⟨τ,x⟩]) zs pre res (h x) e hp;rw[TV.aR hx];simpa using this
    .cases e
   | ref a=>simp[cT] at e
   | cK a=>simp[cT] at e
   | own a=>simp[cT] at e
   | fn a=>simp[cT] at e
   | box a=>simp[cT] at e
 | .r τ::l,g,acc,zs,pre,res,h,e,hp=>by
  cases zs with
  | nil=>simp[cT] at e
  | cons a zs =>
   cases a with
   | ref a =>
    rw[cT] at e;split at e
    .rename_i x hx;have:=oC l (g x) (acc++[.ref ⟨τ,x⟩]) zs pre res (h x) e hp;rw[TV.aR hx];simpa using this
    .cases e
   | val a=>simp[cT] at e
   | cK a=>simp[cT] at e
   | own a=>simp[cT] at e
   | fn a=>simp[cT] at e
   | box a=>simp[cT] at e
 | .f::l,g,acc,zs,pre,res,h,e,hp=>by
  cases zs with
  | nil=>simp[cT] at e
  | cons a zs =>
   cases a with
   | fn a =>
    rw[cT] at e;have:=oC l (g a) (acc++[.fn a]) zs pre res (h a) e hp;simpa using this
   | val a=>simp[cT] at e
   | cK a=>simp[cT] at e
   | own a=>simp[cT] at e
   | ref a=>simp[cT] at e
   | box a=>simp[cT] at e
 | .c ps r::l,g,acc,zs,pre,res,h,e,hp=>by
  cases zs with
  | nil=>simp[cT] at e
  | cons a zs =>
   cases a with
   | cK a =>
    rw[cT] at e;split at e
    .rename_i x hx;have:=oC l (g x) (acc++[.cK ⟨ps,r,x⟩]) zs pre res (h x) e hp;rw[FV.aR hx];simpa using this
    .cases e
   | val a=>simp[cT] at e
   | ref a=>simp[cT] at e
   | fn a=>simp[cT] at e
   | own a=>simp[cT] at e
   | box a=>simp[cT] at e
 | .o τ::l,g,acc,zs,pre,res,h,e,hp=>by
  cases zs with
  | nil=>simp[cT] at e
  | cons a zs =>
   cases a with
   | own a =>
    rw[cT] at e;split at e
    .rename_i x hx;have:=oC l (g x) (acc++[.own ⟨τ,x⟩]) zs pre res (h x) e hp;rw[TV.aR hx];simpa using this
    .cases e
   | val a=>simp[cT] at e
   | ref a=>simp[cT] at e
   | fn a=>simp[cT] at e
   | cK a=>simp[cT] at e
   | box a=>simp[cT] at e
 | .b k::l,g,acc,zs,pre,res,h,e,hp=>by
  cases zs<;>simp[cT] at e
structure aW where
 n:Nat
 l:List PK
 g:KT l
def aW.Good(c:aW):Prop:=iQ prog c.n/\RV prog c.n c.l c.g []
def AP:List aW->Nat->List Arg->Option (Vc×List TV)
 | [],_,_=>none
 | c::r,f,zs=>match Nat.beq c.n f with
  | true=>cT c.l c.g zs
  | false=>AP r f zs
def PK.own:PK->Bool
 | .o _=>true
 | _=>false
def a2X:List aW->Nat->List Bool
 | [],_=>[]
 | c::r,f=>match Nat.beq c.n f with
  | true=>match c.l.any PK.own with
   | true=>c.l.map PK.own
   | false=>[]
  | false=>a2X r f
def AY(l:List aW)(wr:List Nat:=[])(cl:List (Nat×rP):=[])(ro:List Nat:=[]):Env:=Env.mk yO LF (AP l) wr [] (λ _ _=>none) (λ _=>none) (ag cl) ro (λ _=>[]) (λ _=>none) (λ _ _ _=>none) Hk Rm Lu
 (λ _ _ _ _=>none)
def bj:List aW->Prop
 | []=>True
 | c::r=>c.Good/\bj r
def Ip:∀ (l:List aW),bj l->∀ f args pre res,AP l f args=some (pre,res)->pre.ok->iQ prog f/\fO prog f args (·=res)
 | [],_,f,args,pre,res,e,_=>by cases e
 | c::r,h,f,args,pre,res,e,hp=>by
  rw[AP] at e;split at e
  .rename_i hb;have hb:=a7w hb;subst hb;exact⟨h.1.1,oC c.l c.g [] args pre res h.1.2 e hp⟩
  .exact Ip r h.2 f args pre res e hp
def tp{α:Type}:∀ (l:List (Nat×α)) (n:Nat) (v:α),ag l n=some v->(n,v)∈l
 | [],n,v,h=>by cases h
 | (k,u)::r,n,v,h=>by
  rw[ag] at h;split at h
  .rename_i hb;cases h;rw[a7w hb];exact a9D ..
  .exact a8y _ (tp r n v h)
def Ch{l:List aW}{wr:List Nat}{cl:List (Nat×rP)}{ro:List Nat}(h:bj l):bo prog (AY l wr cl ro) where
 ty T τ b e ht:=by
  have h1:=a8g.mp (a9x.1 (rN (AY l wr cl ro))).1 _ (tp _ _ _ ht);exact h1
 Hj T κ ε ht:=by
  have h1:=a8g.mp (a9x.1 (rN (AY l wr cl ro))).2 _ (tp _ _ _ ht);exact h1
 Rv _ _ _:=trivial
 Io:=Ip l h
 Hp _ _ _ _ h:=by cases h
 mark _ _ h:=by cases h
 NC:=ND
 Kl _ _ _ _ _ _ h:=by cases h
 P3 _ _ _ _ _ _ _ h:=by cases h
def aD {f:FuncId} {fn:Func} (h:prog.funcs[f]?=some fn) (hb:fn.body.isNone=false:=by rfl) (hn:(fn.name == "runtime.NumGoroutine")=false:=by decide):iQ prog f:=⟨fn,h,hb,hn⟩
def nP:∀ {l m:List TV},xY l m->l=m
 | [],[],_=>rfl
 | [v],[u],h=>by rw[iO h]
 | v::v'::vs,[u],h=>by
  have:=nP (l:=v'::vs) (m:=[]) h.2;cases this
 | [v],u::u'::us,h=>by
  have:=nP (l:=[]) (m:=u'::us) h.2;cases this
 | v::v'::vs,u::u'::us,h=>by rw[iO h.1,nP (l:=v'::vs) (m:=u'::us) h.2]
 | [],u::us,h=>by cases h
 | v::vs,[],h=>by
  cases vs<;>cases h
def fO.mono{P:Program}{f:FuncId}{args:List Arg}{p q:List TV->Prop}(h:fO P f args p)(W5:∀ r,p r->q r):fO P f args q:=by
 intro w S cj hS ha;refine (h w S cj hS ha).mono λ e w'=>?_;rintro⟨x,S',res,h1,h2,h3⟩;exact⟨x,S',res,h1,W5 _ h2,h3⟩
def U0{f:FuncId}{fn:Func}{bl:Code}{l:List aW}{wr:List Nat}{cl:List (Nat×rP)}{ro:List Nat}(hl:bj l)(hf:prog.funcs[f]?=some fn)(hb:fn.body=some bl)(Λ:Nat->aL){args:List Arg}{res:List TV}
  (h:rX (AY l wr cl ro) bl Λ 0 (sG (AY l wr cl ro) fn λ r=>xY r res) (dw fn args)):fO prog f args (·=res) :=
 (PC (Ch hl) pe hf hb Λ h).mono λ _=>nP
def rR(P:Program)(f:FuncId):(l:List PK)->KT l->List Arg->Prop
 | [],x,acc=>x.down.1.ok->rS P f acc x.down.2
 | .v τ::l,g,acc=>∀ x,rR P f l (g x) (acc++[.val ⟨τ,x⟩])
 | .r τ::l,g,acc=>∀ x,rR P f l (g x) (acc++[.ref ⟨τ,x⟩])
 | .f::l,g,acc=>∀ x,rR P f l (g x) (acc++[.fn x])
 | .c ps r::l,g,acc=>∀ x,rR P f l (g x) (acc++[.cK ⟨ps,r,x⟩])
 | .o τ::l,g,acc=>∀ x,rR P f l (g x) (acc++[.own ⟨τ,x⟩])
 | .b _::_,_,_=>True
def mE{P:Program}{f:FuncId}:∀ (l:List PK) (g:KT l) (acc zs:List Arg) (pre:Vc) (res:List TV),rR P f l g acc->cT l g zs=some (pre,res)->pre.ok->rS P f (acc++zs) res
 | [],g,acc,zs,pre,res,h,e,hp=>by
  cases zs with
  | nil =>
   simp only[cT,a7v] at e;have h':g.down.1.ok->rS P f acc g.down.2:=h;rw[e] at h';rw[a8z];exact h' hp
  | cons a zs=>simp[cT] at e
 | .v τ::l,g,acc,zs,pre,res,h,e,hp=>by
  cases zs with
  | nil=>simp[cT] at e
  | cons a zs =>
   cases a with
   | val a =>
    rw[cT] at e;split at e
    .rename_i x hx;have:=mE l (g x) (acc++[.val ⟨τ,x⟩]) zs pre res (h x) e hp;rw[TV.aR hx];simpa using this
    .cases e
   | ref a=>simp[cT] at e
   | cK a=>simp[cT] at e
   | own a=>simp[cT] at e
   | fn a=>simp[cT] at e
   | box a=>simp[cT] at e
 | .r τ::l,g,acc,zs,pre,res,h,e,hp=>by
  cases zs with
  | nil=>simp[cT] at e
  | cons a zs =>
   cases a with
   | ref a =>
    rw[cT] at e;split at e
    .rename_i x hx;have:=mE l (g x) (acc++[.ref ⟨τ,x⟩]) zs pre res (h x) e hp;rw[TV.aR hx];simpa using this
    .cases e
   | val a=>simp[cT] at e
   | cK a=>simp[cT] at e
   | own a=>simp[cT] at e
   | fn a=>simp[cT] at e
   | box a=>simp[cT] at e
 | .f::l,g,acc,zs,pre,res,h,e,hp=>by
  cases zs with
  | nil=>simp[cT] at e
  | cons a zs =>
   cases a with
   | fn a =>
    rw[cT] at e;have:=mE l (g a) (acc++[.fn a]) zs pre res (h a) e hp;simpa using this
   | val a=>simp[cT] at e
   | cK a=>simp[cT] at e
   | own a=>simp[cT] at e
   | ref a=>simp[cT] at e
   | box a=>simp[cT] at e
 | .c ps r::l,g,acc,zs,pre,res,h,e,hp=>by
  cases zs with
  | nil=>simp[cT] at e
  | cons a zs =>
   cases a with
   | cK a =>
    rw[cT] at e;split at e
    .rename_i x hx;have:=mE l (g x) (acc++[.cK ⟨ps,r,x⟩]) zs pre res (h x) e hp;rw[FV.aR hx];simpa using this
    .cases e
   | val a=>simp[cT] at e
   | ref a=>simp[cT] at e
   | fn a=>simp[cT] at e
   | own a=>simp[cT] at e
   | box a=>simp[cT] at e
 | .o τ::l,g,acc,zs,pre,res,h,e,hp=>by
  cases zs with
  | nil=>simp[cT] at e
  | cons a zs =>
   cases a with
   | own a =>
    rw[cT] at e;split at e
    .rename_i x hx;have:=mE l (g x) (acc++[.own ⟨τ,x⟩]) zs pre res (h x) e hp;rw[TV.aR hx];simpa using this
    .cases e
   | val a=>simp[cT] at e
   | ref a=>simp[cT] at e
   | fn a=>simp[cT] at e
   | cK a=>simp[cT] at e
   | box a=>simp[cT] at e
 | .b k::l,g,acc,zs,pre,res,h,e,hp=>by
  cases zs<;>simp[cT] at e
def aW.Ax(c:aW):Prop:=iQ prog c.n/\rR prog c.n c.l c.g []
def vL.Xp{w:World}{S:Nat->Prop}{v:TV}{x:Value}{fp:List Nat}(h:vL w v x fp)(hb:∀ b∈fp,S b):du w S v x:=by
 obtain⟨τ,y⟩:=v;cases τ with
 | st s =>
  obtain⟨cs,h1,h2⟩:=h;exact⟨cs,h1,h2.rd _ hb⟩
 | _=>exact Ow.rd _ h hb
def FJ.Xp{w:World}{S:Nat->Prop}:∀ {vs:List TV} {xs:List Value} {fp:List Nat},FJ w vs xs fp->(∀ b∈fp,S b)->aM (du w S) vs xs
 | [],[],_,_,_=>trivial
 | v::vs,x::xs,fp,h,hb=>by
  obtain⟨f1,f2,rfl,h1,h2⟩:=h;exact⟨h1.Xp λ b cv=>hb b (a9g _ cv),FJ.Xp h2 λ b cv=>hb b (List.mem_append_right _ cv)⟩
 | [],_::_,_,h,_=>h.elim
 | _::_,[],_,h,_=>h.elim
def rS.plain{P:Program}{f:FuncId}{args:List Arg}{res:List TV}(h:rS P f args res):fO P f args (·=res):=by
 intro w S cj hS ha;refine (h w S cj [] hS (pz.NK ha) (.inl rfl) a8F (λ b hb=>by cases hb)).mono ?_;rintro e w' ⟨x,fp,rfl,hk,hr,_,lg⟩;have hn:∀ b∈fp,w.heap.size<=b/\b<w'.heap.size:=λ b hb=>(lg b hb).elim (λ q=>by cases q) id;refine⟨x,λ b=>S b\/b∈fp,res,rfl,rfl,⟨hk.os,hk.tape,hk.output,hk.size,λ b hb _=>hk.block b hb λ q=>by cases q⟩,λ b hb=>⟨λ q=>q.elim id λ q=>absurd (hn b q).1 (by omega), .inl⟩,λ b q=>q.elim (λ q=>a7F (hS.1 b q) hk.size) λ q=>(hn b q).2,?_⟩;match res,hr with
 | [v],hr=>exact vL.Xp (v:=v) hr λ b hb => .inr hb
 | [],hr =>
  obtain⟨l,h1,h2⟩:=hr;exact⟨l,h1,h2.Xp λ b hb => .inr hb⟩
 | v::u::vs,hr =>
  obtain⟨l,h1,h2⟩:=hr;exact⟨l,h1,h2.Xp λ b hb => .inr hb⟩
def rR.plain{P:Program}{f:FuncId}:∀ (l:List PK) (g:KT l) (acc:List Arg),rR P f l g acc->RV P f l g acc
 | [],_,_,h=>λ hp=>(h hp).plain
 | .v _::l,g,_,h=>λ x=>rR.plain l (g x) _ (h x)
 | .r _::l,g,_,h=>λ x=>rR.plain l (g x) _ (h x)
 | .f::l,g,_,h=>λ x=>rR.plain l (g x) _ (h x)
 | .c _ _::l,g,_,h=>λ x=>rR.plain l (g x) _ (h x)
 | .o _::l,g,_,h=>λ x=>rR.plain l (g x) _ (h x)
 | .b _::_,_,_,_=>trivial
def aW.Ax.plain{k:aW}(h:k.Ax):k.Good:=⟨h.1,rR.plain k.l k.g [] h.2⟩
def uh:List aW->Prop
 | []=>True
 | c::r=>c.Ax/\uh r
def NJ:∀ (l:List aW),uh l->∀ f args pre res,AP l f args=some (pre,res)->pre.ok->iQ prog f/\rS prog f args res
 | [],_,f,args,pre,res,e,_=>by cases e
 | c::r,h,f,args,pre,res,e,hp=>by
  rw[AP] at e;split at e
  .rename_i hb;have hb:=a7w hb;subst hb;exact⟨h.1.1,mE c.l c.g [] args pre res h.1.2 e hp⟩
  .exact NJ r h.2 f args pre res e hp
structure MK where
 n:Nat
 m:RW
def MK.Good(c:MK):Prop:=iQ prog c.n/\Qf prog c.n c.m
def yP:List MK->Prop
 | []=>True
 | c::r=>c.Good/\yP r
def LC:List MK->Nat->Option RW
 | [],_=>none
 | c::r,f=>match Nat.beq c.n f with
  | true=>some c.m
  | false=>LC r f
def Ny:∀ (l:List MK),yP l->∀ f m,LC l f=some m->iQ prog f/\Qf prog f m
 | [],_,f,m,e=>by cases e
 | c::r,h,f,m,e=>by
  rw[LC] at e;split at e
  .rename_i hb;have hb:=a7w hb;subst hb;cases e;exact h.1
  .exact Ny r h.2 f m e
@[reducible] def XR:List Ty->Type 1->Type 1
 | [],R=>R
 | t::ts,R=>t.den->XR ts R
@[reducible] def TM:List (List Ty)->Type 1
 | []=>ULift (Vc×List TV×List (List TV))
 | ts::D=>XR ts (TM D)
@[reducible] def Oy:List PK->List (List Ty)->Type 1
 | [],D=>TM D
 | .v τ::l,D=>τ.den->Oy l D
 | .r τ::l,D=>τ.den->Oy l D
 | .f::l,D=>FuncId->Oy l D
 | .b _::l,D=>Oy l D
 | .c ps r::l,D=>FN ps r->Oy l D
 | .o _::l,D=>Oy l D
def kC:(ts:List Ty)->(R:Type 1)->XR ts R->List TV->Option R
 | [],_,r,[]=>some r
 | t::ts,R,g,v::vs=>match v.Z9 t with
  | some x=>kC ts R (g x) vs
  | none=>none
 | _,_,_,_=>none
def kD:(D:List (List Ty))->TM D->List (List TV)->Option (Vc×List TV×List (List TV))
 | [],r,[]=>some r.down
 | ts::D,g,vs::cA=>match kC ts (TM D) g vs with
  | some h=>kD D h cA
  | none=>none
 | _,_,_=>none
def kS:(l:List PK)->(D:List (List Ty))->Oy l D->List Arg->List (List TV)->Option (Vc×List TV×List (List TV))
 | [],D,g,[],cA=>kD D g cA
 | .v τ::l,D,g, .val a::zs,cA=>match a.Z9 τ with
  | some x=>kS l D (g x) zs cA
  | none=>none
 | .r τ::l,D,g, .ref a::zs,cA=>match a.Z9 τ with
  | some x=>kS l D (g x) zs cA
  | none=>none
 | .f::l,D,g, .fn a::zs,cA=>kS l D (g a) zs cA
 | .c ps r::l,D,g, .cK a::zs,cA=>match a.Z9 ps r with
  | some F=>kS l D (g F) zs cA
  | none=>none
 | .b k::l,D,g, .box j::zs,cA=>match Nat.beq k j with
  | true=>kS l D g zs cA
  | false=>none
 | _,_,_,_,_=>none
def XP:(ts:List Ty)->(R:Type 1)->(R->List TV->Prop)->XR ts R->List TV->Prop
 | [],_,p,r,acc=>p r acc
 | t::ts,R,p,g,acc=>∀ x,XP ts R p (g x) (acc++[⟨t,x⟩])
def XQ(q:List (List TV)->Vc×List TV×List (List TV)->Prop):(D:List (List Ty))->TM D->List (List TV)->Prop
 | [],r,acc=>q acc r.down
 | ts::D,g,acc=>XP ts (TM D) (λ h vs=>XQ q D h (acc++[vs])) g []
def LS(P:Program)(f:FuncId)(sh:List (List CK)):(l:List PK)->(D:List (List Ty))->Oy l D->List Arg->Prop
 | [],D,g,acc=>XQ (λ cA r=>r.1.ok->Pd P f sh acc cA r.2.1 r.2.2) D g []
 | .v τ::l,D,g,acc=>∀ x,LS P f sh l D (g x) (acc++[.val ⟨τ,x⟩])
 | .r τ::l,D,g,acc=>∀ x,LS P f sh l D (g x) (acc++[.ref ⟨τ,x⟩])
 | .f::l,D,g,acc=>∀ x,LS P f sh l D (g x) (acc++[.fn x])
 | .b k::l,D,g,acc=>LS P f sh l D g (acc++[.box k])
 | .c ps r::l,D,g,acc=>∀ x,LS P f sh l D (g x) (acc++[.cK ⟨ps,r,x⟩])
 | .o _::_,_,_,_=>True
def Zp:∀ (ts:List Ty) (R:Type 1) (p:R->List TV->Prop) (g:XR ts R) (acc vs:List TV) (r:R),XP ts R p g acc->kC ts R g vs=some r->p r (acc++vs)
 | [],R,p,g,acc,vs,r,h,e=>by
  cases vs with
  | nil =>
   simp only[kC,a7v] at e;subst e;rw[a8z];exact h
  | cons v vs=>simp[kC] at e
 | t::ts,R,p,g,acc,vs,r,h,e=>by
  cases vs with
  | nil=>simp[kC] at e
  | cons v vs =>
   rw[kC] at e;split at e
   .rename_i x hx;have:=Zp ts R p (g x) (acc++[⟨t,x⟩]) vs r (h x) e;rw[TV.aR hx];simpa using this
   .cases e
def Zq(q:List (List TV)->Vc×List TV×List (List TV)->Prop):∀ (D:List (List Ty)) (g:TM D) (acc cA:List (List TV)) (r:Vc×List TV×List (List TV)),XQ q D g acc->kD D g cA=some r->q (acc++cA) r
 | [],g,acc,cA,r,h,e=>by
  cases cA with
  | nil =>
   simp only[kD,a7v] at e;subst e;rw[a8z];exact h
  | cons v vs=>simp[kD] at e
 | ts::D,g,acc,cA,r,h,e=>by
  cases cA with
  | nil=>simp[kD] at e
  | cons vs cA =>
   rw[kD] at e;split at e
   .rename_i k hk;have h1:=Zp ts _ _ g [] vs k h hk;have:=Zq q D k (acc++[vs]) cA r (by simpa using h1) e;simpa using this
   .cases e
def IU{P:Program}{f:FuncId}{sh:List (List CK)}:∀ (l:List PK) (D:List (List Ty)) (g:Oy l D) (acc zs:List Arg) (cA:List (List TV)) (pre:Vc) (res:List TV) (eD:List (List TV)),LS P f sh l D g acc->kS l D g zs cA=some (pre,res,eD)->pre.ok->Pd P f sh (acc++zs) cA res eD
 | [],D,g,acc,zs,cA,pre,res,eD,h,e,hp=>by
  cases zs with
  | nil =>
   have:=Zq _ D g [] cA _ h e;simpa using this hp
  | cons z zs=>simp[kS] at e
 | .v τ::l,D,g,acc,zs,cA,pre,res,eD,h,e,hp=>by
  cases zs with
  | nil=>simp[kS] at e
  | cons a zs =>
   cases a with
   | val a =>
    rw[kS] at e;split at e
    .rename_i x hx;have:=IU l D (g x) (acc++[.val ⟨τ,x⟩]) zs cA pre res eD (h x) e hp;rw[TV.aR hx];simpa using this
    .cases e
   | _=>simp[kS] at e
 | .r τ::l,D,g,acc,zs,cA,pre,res,eD,h,e,hp=>by
  cases zs with
  | nil=>simp[kS] at e
  | cons a zs =>
   cases a with
   | ref a =>
    rw[kS] at e;split at e
    .rename_i x hx;have:=IU l D (g x) (acc++[.ref ⟨τ,x⟩]) zs cA pre res eD (h x) e hp;rw[TV.aR hx];simpa using this
    .cases e
   | _=>simp[kS] at e
 | .f::l,D,g,acc,zs,cA,pre,res,eD,h,e,hp=>by
  cases zs with
  | nil=>simp[kS] at e
  | cons a zs =>
   cases a with
   | fn a =>
    rw[kS] at e;have:=IU l D (g a) (acc++[.fn a]) zs cA pre res eD (h a) e hp;simpa using this
   | _=>simp[kS] at e
 | .b k::l,D,g,acc,zs,cA,pre,res,eD,h,e,hp=>by
  cases zs with
  | nil=>simp[kS] at e
  | cons a zs =>
   cases a with
   | box j =>
    rw[kS] at e;split at e
    .rename_i hb;have hb:=Nat.eq_of_beq_eq_true hb;subst hb;have:=IU l D g (acc++[.box k]) zs cA pre res eD h e hp;simpa using this
    .cases e
   | _=>simp[kS] at e
 | .c ps r::l,D,g,acc,zs,cA,pre,res,eD,h,e,hp=>by
  cases zs with
  | nil=>simp[kS] at e
  | cons a zs =>
   cases a with
   | cK a =>
    rw[kS] at e;split at e
    .rename_i F hF;have:=IU l D (g F) (acc++[.cK ⟨ps,r,F⟩]) zs cA pre res eD (h F) e hp;rw[FV.aR hF];simpa using this
    .cases e
   | _=>simp[kS] at e
 | .o _::l,D,g,acc,zs,cA,pre,res,eD,h,e,hp=>by cases zs<;>simp[kS] at e
structure CE where
 n:Nat
 sh:List (List CK)
 l:List PK
 D:List (List Ty)
 g:Oy l D
def CE.Good(c:CE):Prop:=iQ prog c.n/\LS prog c.n c.sh c.l c.D c.g []
def yQ:List CE->Prop
 | []=>True
 | c::r=>c.Good/\yQ r
def ZX:List PK->List (Option Nat)
 | []=>[]
 | .b k::l=>some k::ZX l
 | _::l=>none::ZX l
def Wn:List CE->Nat->Option SK
 | [],_=>none
 | c::r,f=>match Nat.beq c.n f with
  | true=>some ⟨ZX c.l,c.sh⟩
  | false=>Wn r f
def LJ:List CE->Nat->List Arg->List (List TV)->Option (Vc×List TV×List (List TV))
 | [],_,_,_=>none
 | c::r,f,zs,cA=>match Nat.beq c.n f with
  | true=>kS c.l c.D c.g zs cA
  | false=>LJ r f zs cA
def N5:∀ (l:List CE),yQ l->∀ f sk args cA pre res eD,Wn l f=some sk->LJ l f args cA=some (pre,res,eD)->pre.ok->iQ prog f/\Pd prog f sk.sh args cA res eD
 | [],_,f,sk,args,cA,pre,res,eD,h,_,_=>by cases h
 | c::r,h,f,sk,args,cA,pre,res,eD,hs,e,hp=>by
  rw[Wn] at hs;rw[LJ] at e;split at e
  .rename_i hb;rw[hb] at hs;have hb:=Nat.eq_of_beq_eq_true hb;subst hb;simp only[Option.some.injEq] at hs;subst hs;exact⟨h.1.1,by simpa using IU c.l c.D c.g [] args cA pre res eD h.1.2 e hp⟩
  .rename_i hb;rw[hb] at hs;exact N5 r h.2 f sk args cA pre res eD hs e hp
def y8(l:List aW)(ol:List aW)(ml:List MK)(own wr:List Nat)(cl:List (Nat×rP):=[])(ro:List Nat:=[])(sl:List CE:=[]):Env:=Env.mk yO LF (AP l) wr own (AP ol) (LC ml) (ag cl) ro (a2X ol) (Wn sl) (LJ sl) Hk Rm Lu
 (λ _ _ _ _=>none)
def Mu{l ol:List aW}{ml:List MK}{own wr:List Nat}{cl:List (Nat×rP)}{ro:List Nat}{sl:List CE}(h:bj l)(ho:uh ol)(hm:yP ml)(hs:yQ sl):bo prog (y8 l ol ml own wr cl ro sl) where
 ty T τ b e ht:=by
  have h1:=a8g.mp (a9x.1 (rN (y8 l ol ml own wr cl ro sl))).1 _ (tp _ _ _ ht);exact h1
 Hj T κ ε ht:=by
  have h1:=a8g.mp (a9x.1 (rN (y8 l ol ml own wr cl ro sl))).2 _ (tp _ _ _ ht);exact h1
 Rv _ _ _:=trivial
 Io:=Ip l h
 Hp:=NJ ol ho
 mark:=Ny ml hm
 NC:=ND
 Kl _ _ _ _ _ _ h:=by cases h
 P3:=N5 sl hs
def S2{f:FuncId}{fn:Func}{bl:Code}{l ol:List aW}{ml:List MK}{own wr:List Nat}{cl:List (Nat×rP)}{ro:List Nat}{sl:List CE}(hl:bj l)(ho:uh ol)(hm:yP ml)(hs:yQ sl)(hf:prog.funcs[f]?=some fn)(hb:fn.body=some bl)(Λ:Nat->aL){args:List Arg}{res:List TV}
  (h:rX (y8 l ol ml own wr cl ro sl) bl Λ 0 (sG (y8 l ol ml own wr cl ro sl) fn λ r=>xY r res) (dw fn args)):fO prog f args (·=res) :=
 (PC (Mu hl ho hm hs) pe hf hb Λ h).mono λ _=>nP
def S4{f:FuncId}{fn:Func}{bl:Code}{l ol:List aW}{ml:List MK}{own wr:List Nat}{cl:List (Nat×rP)}{ro:List Nat}{sl:List CE}(hl:bj l)(ho:uh ol)(hm:yP ml)(hs:yQ sl)(hf:prog.funcs[f]?=some fn)(hb:fn.body=some bl)(Λ:Nat->aL){args:List Arg}{res:List TV}
  (h:rX (y8 l ol ml own wr cl ro sl) bl Λ 0 (xJ (y8 l ol ml own wr cl ro sl) fn λ r=>xY r res) (HL fn args)):rS prog f args res :=
 Dx (Mu hl ho hm hs) pe hf hb Λ (λ _=>nP) h
def Mg(args:List Arg)(n:Nat):Bool:=args.all λ a=>match a with
 | .box k=>Nat.blt k n
 | _=>true
def OA{args:List Arg}{n:Nat}(h:Mg args n=true):∀ k,Arg.box k∈args->k<n:=λ k hk=>by
 unfold Mg at h;rw[List.all_eq_true] at h;exact Nat.le_of_ble_eq_true (h _ hk)
def aV{f:FuncId}{fn:Func}{bl:Code}(l:List aW)(wr:List Nat)(cl:List (Nat×rP))(ro:List Nat)(hl:bj l)(hf:prog.funcs[f]?=some fn)(hb:fn.body=some bl)(Λ:Nat->aL){args:List Arg}{res:List TV}(V:Prop)(h:V)
  (e:rX (AY l wr cl ro) bl Λ 0 (sG (AY l wr cl ro) fn λ r=>xY r res) (dw fn args)=V:=by kernel_rfl):fO prog f args (·=res) :=
 U0 hl hf hb Λ (Eq.mpr e h)
def U1{f:FuncId}{fn:Func}{bl:Code}(l ol:List aW)(ml:List MK)(sl:List CE)(own wr:List Nat)(cl:List (Nat×rP))(ro:List Nat)(hl:bj l)(ho:uh ol)(hm:yP ml)(hs:yQ sl)(hf:prog.funcs[f]?=some fn)(hb:fn.body=some bl)(Λ:Nat->aL){args:List Arg}{res:List TV}(V:Prop)(h:V)
  (e:rX (y8 l ol ml own wr cl ro sl) bl Λ 0 (sG (y8 l ol ml own wr cl ro sl) fn λ r=>xY r res) (dw fn args)=V:=by kernel_rfl):fO prog f args (·=res) :=
 S2 hl ho hm hs hf hb Λ (Eq.mpr e h)
def NO{f:FuncId}{fn:Func}{bl:Code}(l ol:List aW)(ml:List MK)(sl:List CE)(own wr:List Nat)(cl:List (Nat×rP))(ro:List Nat)(hl:bj l)(ho:uh ol)(hm:yP ml)(hs:yQ sl)(hf:prog.funcs[f]?=some fn)(hb:fn.body=some bl)(Λ:Nat->aL){args:List Arg}{res:List TV}(V:Prop)(h:V)
  (e:rX (y8 l ol ml own wr cl ro sl) bl Λ 0 (xJ (y8 l ol ml own wr cl ro sl) fn λ r=>xY r res) (HL fn args)=V:=by kernel_rfl):rS prog f args res :=
 S4 hl ho hm hs hf hb Λ (Eq.mpr e h)
@[reducible] def TN:List PK->Ty->Type 1
 | [],τ=>List τ.den->ULift (Vc×List τ.den)
 | .v t::l,τ=>t.den->TN l τ
 | .r t::l,τ=>t.den->TN l τ
 | _::l,τ=>TN l τ
def kR:(l:List PK)->(τ:Ty)->TN l τ->List Arg->List τ.den->Option (Vc×List τ.den)
 | [],_,g,[],xs=>some (g xs).down
 | .v t::l,τ,g, .val a::zs,xs=>match a.Z9 t with
  | some x=>kR l τ (g x) zs xs
  | none=>none
 | .r t::l,τ,g, .ref a::zs,xs=>match a.Z9 t with
  | some x=>kR l τ (g x) zs xs
  | none=>none
 | _,_,_,_,_=>none
def Vw(P:Program)(f:FuncId):(l:List PK)->(τ:Ty)->TN l τ->List Arg->Prop
 | [],τ,g,acc=>∀ xs:List τ.den,(g xs).down.1.ok->Cc P f acc τ xs (g xs).down.2
 | .v t::l,τ,g,acc=>∀ x,Vw P f l τ (g x) (acc++[.val ⟨t,x⟩])
 | .r t::l,τ,g,acc=>∀ x,Vw P f l τ (g x) (acc++[.ref ⟨t,x⟩])
 | _::l,τ,g,acc=>False
def UO{P:Program}{f:FuncId}:∀ (l:List PK) (τ:Ty) (g:TN l τ) (acc zs:List Arg) (xs ys:List τ.den) (pre:Vc),Vw P f l τ g acc->kR l τ g zs xs=some (pre,ys)->pre.ok->Cc P f (acc++zs) τ xs ys
 | [],τ,g,acc,zs,xs,ys,pre,h,e,hp=>by
  cases zs with
  | nil =>
   simp only[kR,a7v] at e;have h2:=h xs;rw[e] at h2;rw[a8z];exact h2 hp
  | cons z zs=>simp[kR] at e
 | .v t::l,τ,g,acc,zs,xs,ys,pre,h,e,hp=>by
  cases zs with
  | nil=>simp[kR] at e
  | cons a zs =>
   cases a with
   | val a =>
    rw[kR] at e;split at e
    .rename_i x hx;have:=UO l τ (g x) (acc++[.val ⟨t,x⟩]) zs xs ys pre (h x) e hp;rw[TV.aR hx];simpa using this
    .cases e
   | _=>simp[kR] at e
 | .r t::l,τ,g,acc,zs,xs,ys,pre,h,e,hp=>by
  cases zs with
  | nil=>simp[kR] at e
  | cons a zs =>
   cases a with
   | ref a =>
    rw[kR] at e;split at e
    .rename_i x hx;have:=UO l τ (g x) (acc++[.ref ⟨t,x⟩]) zs xs ys pre (h x) e hp;rw[TV.aR hx];simpa using this
    .cases e
   | _=>simp[kR] at e
 | .f::l,τ,g,acc,zs,xs,ys,pre,h,e,hp=>h.elim
 | .c _ _::l,τ,g,acc,zs,xs,ys,pre,h,e,hp=>h.elim
 | .o _::l,τ,g,acc,zs,xs,ys,pre,h,e,hp=>h.elim
 | .b _::l,τ,g,acc,zs,xs,ys,pre,h,e,hp=>h.elim
structure H4 where
 n:Nat
 l:List PK
 τ:Ty
 g:TN l τ
def H4.Good(c:H4):Prop:=iQ prog c.n/\Vw prog c.n c.l c.τ c.g []
def LN:List H4->Prop
 | []=>True
 | c::r=>c.Good/\LN r
def LL:List H4->Nat->List Arg->(τ:Ty)->List τ.den->Option (Vc×List τ.den)
 | [],_,_,_,_=>none
 | c::r,f,zs,τ,xs=>match Nat.beq c.n f with
  | true=>match TV.Z9 (.slice c.τ) ⟨.slice τ,xs⟩ with
   | some cF=>match kR c.l c.τ c.g zs cF with
    | some (pre,ys)=>match TV.Z9 (.slice τ) ⟨.slice c.τ,ys⟩ with
     | some ys'=>some (pre,ys')
     | none=>none
    | none=>none
   | none=>none
  | false=>LL r f zs τ xs
def Oj:∀ (l:List H4),LN l->∀ f az τ xs pre ys,LL l f az τ xs=some (pre,ys)->pre.ok->iQ prog f/\Cc prog f az τ xs ys
 | [],_,f,az,τ,xs,pre,ys,e,_=>by cases e
 | c::r,h,f,az,τ,xs,pre,ys,e,hp=>by
  rw[LL] at e;split at e
  .rename_i hb;have hb:=a7w hb;subst hb;split at e
   .rename_i cF hx;split at e
    .rename_i a6c ys1 hk;split at e
     .rename_i ys' hy;simp only[Option.some.injEq,Prod.mk.injEq] at e;obtain⟨rfl,rfl⟩:=e;have e1:=TV.aR hx;simp only[TV.mk.injEq,Ty.slice.injEq] at e1;obtain⟨rfl,e1⟩:=e1;have e1:=eq_of_heq e1;subst e1;have e2:=TV.aR hy;simp only[TV.mk.injEq,true_and] at e2;have e2:=eq_of_heq e2;subst e2;exact⟨h.1.1,by simpa using UO c.l c.τ c.g [] az xs ys1 a6c h.1.2 hk hp⟩
     .cases e
    .cases e
   .cases e
  .exact Oj r h.2 f az τ xs pre ys e hp
def Ps(l:List aW)(ol:List aW)(ml:List MK)(own wr:List Nat)(cl:List (Nat×rP))(ro:List Nat)(sl:List CE)(tl:List H4):Env:={ y8 l ol ml own wr cl ro sl with Kl:=LL tl }
def Sb{l ol:List aW}{ml:List MK}{own wr:List Nat}{cl:List (Nat×rP)}{ro:List Nat}{sl:List CE}{tl:List H4}(h:bj l)(ho:uh ol)(hm:yP ml)(hs:yQ sl)(ht:LN tl):bo prog (Ps l ol ml own wr cl ro sl tl) :=
 have h:=Mu (wr:=wr) (own:=own) (cl:=cl) (ro:=ro) h ho hm hs
 { h with
  ty:=by
   intro T τ b e ht;have h1:=a8g.mp (a9x.1 (rN (Ps l ol ml own wr cl ro sl tl))).1 _ (tp _ _ _ ht);exact h1
  Hj:=by
   intro T κ ε ht;have h1:=a8g.mp (a9x.1 (rN (Ps l ol ml own wr cl ro sl tl))).2 _ (tp _ _ _ ht);exact h1
  Kl:=Oj tl ht }
def S5{f:FuncId}{fn:Func}{bl:Code}(l ol:List aW)(ml:List MK)(sl:List CE)(tl:List H4)(own wr:List Nat)(cl:List (Nat×rP))(ro:List Nat)(hl:bj l)(ho:uh ol)(hm:yP ml)(hs:yQ sl)(ht:LN tl)(hf:prog.funcs[f]?=some fn)(hb:fn.body=some bl)(Λ:Nat->aL){args:List Arg}{res:List TV}(V:Prop)(h:V)
  (e:rX (Ps l ol ml own wr cl ro sl tl) bl Λ 0 (xJ (Ps l ol ml own wr cl ro sl tl) fn λ r=>xY r res) (HL fn args)=V:=by kernel_rfl):rS prog f args res :=
 Dx (Sb hl ho hm hs ht) pe hf hb Λ (λ _=>nP) (Eq.mpr e h)
def TG{f:FuncId}{fn:Func}{bl:Code}(l ol:List aW)(ml:List MK)(sl:List CE)(tl:List H4)(own wr:List Nat)(cl:List (Nat×rP))(ro:List Nat)(hl:bj l)(ho:uh ol)(hm:yP ml)(hs:yQ sl)(ht:LN tl)(hf:prog.funcs[f]?=some fn)(hb:fn.body=some bl)(Λ:Nat->aL){args:List Arg}{τ:Ty}{xs ys:List τ.den}(V:Prop)(h:V)
  (e:rX (Ps l ol ml own wr cl ro sl tl) bl Λ 0 (CB τ λ zs=>zs=ys) (mq fn args τ xs)=V:=by kernel_rfl) (hr:fn.results.size=0:=by rfl) (ID:Mg args 0=true:=by rfl) (hn:Nat.ble (args.length+1) fn.ntmps=true:=by rfl):Cc prog f args τ xs ys :=
 MF (Sb hl ho hm hs ht) pe hf hb Λ hr (λ k hk=>absurd (OA ID k hk) (a8a _)) (a8w hn) (Eq.mpr e h)
open Go.ChangeShapes Go.WideShapes Go.ChangeAt Go.RowKit
theorem cJ.append{w:World}{S:Nat->Prop}:∀ (ds es:List D) {l m:List Value},cJ w S ds l->cJ w S es m->cJ w S (ds++es) (l++m)
 | [],_,_,_,h,k=>by rw[show _=[] from h];simpa using k
 | d::ds,es,_,m,h,k=>by
  obtain⟨c,r,rfl,h2,h3⟩:=h;exact⟨c,r++m,by simp,h2,cJ.append ds es h3 k⟩
theorem Xq{w:World}{S:Nat->Prop}(t:Ty)(y:t.den){cs:List Value}(h:Rd w S (t.aI y) cs):cJ w S ((TV.cells ⟨t,y⟩).map TV.aI) cs:=by
 have one:∀ d:D,d.leaf=true->Rd w S d cs->cJ w S [d] cs:=by
  intro d hd h;obtain⟨v,rfl,_⟩:=Rd.qu hd h;exact⟨v,[],rfl,h,rfl⟩
 cases t with
 | st s =>
  have h':Rd w S (s.aI y) cs:=h;rw[aJ.bR] at h';exact h'
 | int k=>exact one _ rfl h
 | bool=>exact one _ rfl h
 | str=>exact one _ rfl h
 | slice t=>exact one _ rfl h
 | mv t=>exact one _ (I9 _ _ _) h
 | ptr=>exact one _ rfl h
theorem Ex{w:World}{S:Nat->Prop}:∀ (ts:List Ty) (cs:List Value),cs.length=(ts.map Ty.size).sum ->
  (∀ i t,ts[i]?=some t->∃ y:t.den,Rd w S (t.aI y) ((cs.drop ((ts.take i).map Ty.size).sum).take t.size)) ->
  ∃ fl:List TV,fl.map TV.τ=ts/\cJ w S ((fl.flatMap TV.cells).map TV.aI) cs
 | [],cs,h,_=>⟨[],rfl,by
   have:cs=[]:=by simpa using h
   subst this;exact rfl⟩
 | t::ts,cs,h,k=>by
  obtain⟨y,hy⟩:=k 0 t rfl;simp only[a9z,a9h,List.sum_nil,b0G] at hy;simp only[a8d,b1C] at h;obtain⟨fl,h1,h2⟩:=Ex ts (cs.drop t.size) (by simp;omega) (λ i u hu=>by
   obtain⟨z,hz⟩:=k (i+1) u hu;simp only[b0D,a8d,b1C] at hz;rw[<-b0F] at hz;exact⟨z,hz⟩)
  refine⟨⟨t,y⟩::fl,by simp[h1],?_⟩;simp only[a9j,a8R];have:=cJ.append _ _ (Xq t y hy) h2;rwa [a9a] at this
theorem Wj{w:World}{S:Nat->Prop}(t:Ty)(b:Nat):∀ (n o:Nat),(∀ i,i<n->∃ (x:t.den) (cs:List Value),cs.length=t.size/\Rd w S (t.aI x) cs/\bn w b (o+i * t.size) cs) ->
  ∃ xs:List t.den,xs.length=n/\cR w S (xs.map t.aI) b o
 | 0,o,_=>⟨[],rfl,af⟩
 | n+1,o,h=>by
  obtain⟨x,cs,h1,h2,h3⟩:=h 0 (by omega);obtain⟨xs,h4,h5⟩:=Wj t b n (o+t.size) (λ i hi=>by
   obtain⟨y,c,g1,g2,g3⟩:=h (i+1) (by omega);exact⟨y,c,g1,g2,by rw[show o+t.size+i * t.size=o+(i+1) * t.size by rw[a8B];omega];exact g3⟩)
  refine⟨x::xs,by simp[h4],⟨cs,by rw[Ty.cm];exact h1,h2,by simpa using h3⟩,?_⟩;rw[Ty.cm];exact h5
section
variable {H:Type} {enc:TypeId×Value->H} {w:World} {spare:Nat->Bool} {held:Bool}
theorem Rq(d:DataW H):1<=Rows.uptoBulk d:=by
 cases d with
 | lit l=>cases l<;>simp[Rows.uptoBulk]
 | nil=>simp[Rows.uptoBulk]
 | ptr d=>simp[Rows.uptoBulk]
 | slice elems spare=>simp[Rows.uptoBulk]
 | agg parts=>simp[Rows.uptoBulk]
 | iface t d=>simp[Rows.uptoBulk]
 | map entries=>simp[Rows.uptoBulk]
 | held h=>simp[Rows.uptoBulk]
theorem Hw{d:DataW H}{l:List (DataW H)}(h:d∈l):Rows.uptoBulk d<=Rows.uptoBulkAll l:=by
 induction l with
 | nil=>cases h
 | cons x r ih =>
  simp only[Rows.uptoBulkAll];cases a7J.1 h with
  | inl e=>subst e;omega
  | inr e=>have:=ih e;omega
theorem Lb(l:List (DataW H)):l.length<=Rows.uptoBulkAll l:=by
 induction l with
 | nil=>simp[Rows.uptoBulkAll]
 | cons x r ih=>have:=Rq x;simp only[Rows.uptoBulkAll,a7I];omega
theorem jh:bo prog (AY []):=Ch trivial
theorem mQ{T b e:Nat}{τ:Ty}(h:ag yO T=some (τ,b,e)):prog.cellsOf T=τ.size:=by
 obtain⟨i,z,h1,h2,_⟩:=(jh.info (T:=T) (τ:=τ) (b:=b) (e:=e) h).ex;simp[Program.cellsOf,h1,h2]
theorem Tb:∀ (fuel:Nat) (τ:Ty) (T b e:Nat) (cs:List Value) (x:DataW H×List MemPlace),ag yO T=some (τ,b,e)->DataW.trod enc prog w 0 spare held fuel T cs=some x ->
  Rows.uptoBulk x.1<=1048576->∃ y:τ.den,Rd w (·<w.heap.size) (τ.aI y) cs:=by
 intro fuel;induction fuel with
 | zero =>
  intro τ T b e cs x ht h hk;have h':(none:Option (DataW H×List MemPlace))=some x:=h;cases h'
 | succ fuel ih =>
 intro τ T b e cs x ht h hk;cases τ with
 | int k =>
  obtain⟨n,rfl,rfl,hw⟩:=DataW.trod_int (jh.int ht) h;refine⟨n,rfl,?_⟩;simpa [Lit.wf] using hw
 | bool =>
  obtain⟨n,rfl,rfl⟩:=DataW.trod_bool (jh.bool ht) h;exact⟨n,rfl⟩
 | str =>
  obtain⟨n,rfl,rfl,hw⟩:=DataW.trod_string (jh.str ht) h;refine⟨n.data.toList,n,rfl,rfl,?_⟩;simp[Rows.uptoBulk] at hk;have:n.size=n.data.size:=rfl;omega
 | mv t=>exact (jh.ZN ht).elim
 | ptr =>
  obtain⟨t,hu⟩:=jh.ptr ht;rcases DataW.trod_pointer hu h with ⟨rfl,_⟩|⟨a,_,_,_,_,rfl,_⟩
  .exact⟨(),_,rfl⟩
  .exact⟨(),_,rfl⟩
 | slice t =>
  obtain⟨hu,⟨b',e',he⟩,_⟩:=jh.slice ht;have hc:=mQ he;rcases DataW.trod_slice hu h with ⟨rfl,rfl⟩|⟨a,len,cap,elems,rest,n,hn,rfl,rfl,hb,hl,hm,hlen,OG,_⟩
  .exact⟨[],none,0,rfl,a7P _,a8r _,a8r _, .inl rfl⟩
  .obtain rfl:n=fuel:=by omega
   rw[hc] at OG;have Uv:∀ (i:Nat) (z:DataW H×List MemPlace),elems[i]?=some z->Rows.uptoBulk z.1<=1048576:=by
    intro i z hz;have h1:=Hw (d:=z.1) (l:=elems.map (·.1)) (a7B.2 ⟨z,a8i hz,rfl⟩);simp only[Rows.uptoBulk] at hk;omega
   have sO:∀ i,i<len->∃ (y:t.den) (c:List Value),c.length=t.size/\Rd w (·<w.heap.size) (t.aI y) c/\(∀ j v,c[j]?=some v->w.cell? ((a.add (i * t.size)).add j)=some v):=by
    intro i hi;have hz:elems[i]?=some (elems[i]'(by omega)):=a7L (by omega);have:=OG i hi;rw[hz,a8U] at this;obtain⟨c,MR,hc2⟩:=this;obtain⟨y,hy⟩:=ih t e b' e' c _ he hc2 (Uv i _ hz);obtain⟨_,h5,h6⟩:=World.cells?_some MR;refine⟨y,c,h5,hy,λ j v hj=>?_⟩;rw[h6 j (by rw[<-h5];exact (a7R.1 hj).1),hj]
   have hlb:len<=1048576:=by
    have h1:=Lb (elems.map (·.1));simp only[Rows.uptoBulk,a8n] at hk h1;omega
   rcases Nat.eq_zero_or_pos len with h0|h0
   .subst h0;exact⟨[],some a,cap,rfl,a8r _,hm,a8r _, .inl rfl⟩
   .have hp:=Ty.size_pos t;have Q4:a.spot=none:=by
     obtain⟨y,c,g1,g2,g3⟩:=sO 0 h0;have hj:c[0]?=some (c[0]'(by omega)):=List.getElem?_eq_getElem (by omega);have:=World.cell?_spot (g3 0 _ hj);simpa [Addr.add] using this
    obtain⟨ab,ao,asp⟩:=a;simp only at Q4;subst Q4;have a2o:∀ i j,((⟨ab,ao,none⟩:Addr).add i).add j=⟨ab,ao+i+j,none⟩:=by
     intro i j;unfold Addr.add;split<;>split<;>simp_all<;>omega
    obtain⟨xs,h1,h2⟩:=Wj (w:=w) (S:=(·<w.heap.size)) t ab len ao (λ i hi=>by
     obtain⟨y,c,g1,g2,g3⟩:=sO i hi;exact⟨y,c,g1,g2,λ j v hj=>by rw[<-a2o];exact g3 j v hj⟩)
    have bp:ab<w.heap.size:=by
     obtain⟨y,c,g1,g2,g3⟩:=sO 0 h0;have hj:c[0]?=some (c[0]'(by omega)):=List.getElem?_eq_getElem (by omega);have:=g3 0 _ hj;rw[a2o] at this;unfold World.cell? at this;split at this
     .rename_i hh;exact (a8V.1 hh).1
     .cases this
    have Q0:(xs.map t.aI).length=len:=by simp[h1]
    refine⟨xs,some ⟨ab,ao,none⟩,cap,by rw[Q0],by rw[Q0];exact hl,hm,by rw[Q0];omega, .inr ⟨ab,ao,rfl,bp,h2⟩⟩
 | st s =>
  obtain⟨fl,h1,h2⟩:∃ fl:List TV,fl.map TV.τ=s.dr/\cJ w (·<w.heap.size) ((fl.flatMap TV.cells).map TV.aI) cs:=by
   cases ha:s.arr with
   | true =>
    obtain⟨e1,hu,_⟩:=jh.arr ht ha;obtain⟨xs,n,hn,rfl,xe,qk,hx⟩:=DataW.trod_array hu h;obtain rfl:n=fuel:=by omega
    have ij:cs.length=(s.dr.map Ty.size).sum:=by
     rw[xe,mQ ht];cases s<;>rfl
    exact Ex (w:=w) (S:=(·<w.heap.size)) s.dr cs ij (λ i t hi=>by
     have bp:=(a7R.1 hi).1;obtain⟨e2,k1,⟨b',e',k2⟩,k3⟩:=jh.Qj ht ha hi;rw[hu] at k1;simp only[a7v,b1w,a8Y] at k1;subst k1;have hy:=hx i bp;have hz:xs[i]?=some (xs[i]'(by omega)):=a7L (by omega);rw[hz,mQ k2,<-k3] at hy;refine ih t _ b' e' _ _ k2 hy ?_;have h3:=Hw (d:=(xs[i]'(by omega)).1) (l:=xs.map (·.1)) (a7B.2 ⟨_,a9l _,rfl⟩);simp only[Rows.uptoBulk] at hk;omega)
   | false =>
    obtain⟨fs,hu,bW,hf⟩:=jh.st ht ha;obtain⟨xs,n,hn,rfl,xe,qk,hx⟩:=DataW.trod_struct hu h;obtain rfl:n=fuel:=by omega
    have ij:cs.length=(s.dr.map Ty.size).sum:=by
     rw[xe,mQ ht];cases s<;>rfl
    exact Ex (w:=w) (S:=(·<w.heap.size)) s.dr cs ij (λ i t hi=>by
     have bp:i<fs.size:=by rw[bW];exact (a7R.1 hi).1
     obtain⟨t',b',e',g1,g2,g3⟩:=hf i (fs[i]'bp) (a8u bp);rw[hi] at g1;cases g1;have hy:=hx i (fs[i]'bp) (a8u bp);have hz:xs[i]?=some (xs[i]'(by omega)):=a7L (by omega);rw[hz,mQ g2,g3] at hy;refine ih t _ b' e' _ _ g2 hy ?_;have h3:=Hw (d:=(xs[i]'(by omega)).1) (l:=xs.map (·.1)) (a7B.2 ⟨_,a9l _,rfl⟩);simp only[Rows.uptoBulk] at hk;omega)
  obtain⟨y,hy⟩:=aJ.Ue s fl h1;refine⟨y,?_⟩;show Rd w _ (s.aI y) cs;rw[aJ.bR,aJ.Dr,hy];exact h2
end
end Go.Proofs.YtncejbehidimmaaGreatDoor

namespace Go.Proofs.YtncejbehidimmaaGreatDoor
open Go.ChangeShapes Go.WideShapes Go.ChangeAt Go.RowKit
theorem U7:laidOutB prog=true:=by kernel_rfl
theorem Xo:ownKnob prog.godebug=none:=by kernel_rfl
section
variable {H:Type} {enc:TypeId×Value->H}
theorem DY{W W':World}{sp:Nat->Bool}(hb:Below W.heap.size W W'):∀ (ts:List TypeId) {vs:List Value} {ds:List (DataW H)} {ps:List MemPlace},(∀ t∈ts,prog.readableRec t=true/\t<prog.types.size) ->
  DataW.TrodAll enc prog W 0 (λ _=>true) true ts vs ds ps->(∀ p∈ps,p.block<W.heap.size)->(∀ p∈ps,sp p.block=true)->DataW.TrodAll enc prog W' 0 sp true ts vs ds ps
 | [],[],[],ps,_,h,_,_=>h
 | t::ts,v::vs,d::ds,ps,ht,h,bp,Q4=>by
  obtain⟨p,q,h1,h2,rfl⟩:=h;refine⟨p,q,?_,?_,rfl⟩
  .exact WideElems.Trod_stays U7 (ht t (by simp)).1 (ht t (by simp)).2 h1 (λ x hx=>hb.same (bp x (by simp[hx]))) (λ x hx=>Q4 x (by simp[hx]))
  .exact DY hb ts (λ t h=>ht t (by simp[h])) h2 (λ x hx=>bp x (by simp[hx])) (λ x hx=>Q4 x (by simp[hx]))
 | [],_::_,_,_,_,h,_,_=>h.elim
 | [],[],_::_,_,_,h,_,_=>h.elim
 | _::_,[],_,_,_,h,_,_=>h.elim
 | _::_,_::_,[],_,_,h,_,_=>h.elim
theorem S8{f:Func}{s:ChangeSpec}{apart fresh handsOn again:Bool}{W W':World}{args:Array Value}{v:Value}{ds gs:List (DataW H)}{before pa pv:List MemPlace}
  (hW:DataW.Whole enc prog f.params.toList s.vars apart W args.toList ds gs before)
  (PS:∀ (b:Nat) (sp:Nat->Bool) (hd:Bool),DataW.TrodAll enc prog W' b sp hd f.resultTypes.toList (v.resultList f.resultTypes.size) (s.fn H (ds++gs)).results [])
  (dE:∀ sp:Nat->Bool,(∀ p∈before,sp p.block=true)->DataW.TrodAll enc prog W' 0 sp true f.params.toList args.toList (s.fn H (ds++gs)).args pa)
  (M4:∀ sp:Nat->Bool,(∀ p∈before,sp p.block=true)->DataW.TrodVars enc prog W' sp s.vars (s.fn H (ds++gs)).vars pv)
  (hps:before=pa++pv) (hb:Below W.heap.size W W')
  (hok:∀ (j:Nat) (t:TypeId) (r:Value),f.resultTypes[j]?=some t->(v.resultList f.resultTypes.size)[j]?=some r->Value.okWide prog W' .any 0 t r) :
  s.post enc prog f apart fresh handsOn again W args v W':=by
 have bp:∀ p∈before,p.block<W.heap.size:=λ p hp=>hW.lt p hp;have hold:∀ p∈before,(λ b=>decide (b<W.heap.size)) p.block=true:=λ p hp=>by simpa using bp p hp
 refine⟨ds,gs,before,[],pa,pv,hW,PS _ _ _,dE _ hold,M4 _ hold,World.keptBut_mono (λ p hp=>⟨hp,?_⟩) (hb.frame (·∈before)),λ _=>?_⟩
 .rw[hps,a7y] at hp;exact Or.inr hp
 .obtain⟨_,_,_,_,_,hz,hn⟩:=hW;refine⟨hok,_,_,([]++pa)++pv,⟨[]++pa,pv,trodAll_append (dE _ (λ _ _=>rfl)) (PS _ _ _),M4 _ (λ _ _=>rfl),rfl,?_,?_⟩,?_⟩
  .intro b off hp;have ff:MemPlace.cell b off∈before:=by rw[hps];simpa using hp
   rw[hb.frozen (bp _ ff)];exact hz b off ff
  .intro ha;have:=hn ha;rw[hps] at this;simpa using this
  .intro p hp _;rw[hps];simpa using hp
def Tm(τ:Ty)(v:Value):Prop:=match τ with
 | .st _=>∃ cs,v = .agg cs
 | _=>v.cells = #[v]
theorem a1A{w:World}{S:Nat->Prop}(τ:Ty)(y:τ.den){v:Value}(hv:Tm τ v)(h:Rd w S (τ.aI y) v.cells.toList):du w S ⟨τ,y⟩ v:=by
 cases τ with
 | st s =>
  obtain⟨cs,rfl⟩:=hv;exact⟨cs.toList,by simp,h⟩
 | int k=>simp only[show v.cells = #[v] from hv] at h;exact h
 | bool=>simp only[show v.cells = #[v] from hv] at h;exact h
 | str=>simp only[show v.cells = #[v] from hv] at h;exact h
 | slice t=>simp only[show v.cells = #[v] from hv] at h;exact h
 | mv t=>simp only[show v.cells = #[v] from hv] at h;exact h
 | ptr=>simp only[show v.cells = #[v] from hv] at h;exact h
theorem R1{w:World}:∀ (ts:List TypeId) (τs:List Ty) {vs:List Value} {ds:List (DataW H)} {ps:List MemPlace},aM (λ T τ=>∃ b e,ag yO T=some (τ,b,e)) ts τs ->
  DataW.TrodAll enc prog w 0 (λ _=>true) true ts vs ds ps->(∀ d∈ds,Rows.uptoBulk d<=1048576)->(∀ (j:Nat) t v,ts[j]?=some t->vs[j]?=some v->Value.okWide prog w .any 0 t v\/∃ b,Value.okWide prog w .any b t v) ->
  ∃ HW:List TV,HW.map TV.τ=τs/\ds.length=τs.length/\aM (ui prog w (·<w.heap.size)) (HW.map .val) vs
 | [],[],[],[],_,_,_,_,_=>⟨[],rfl,rfl,af⟩
 | T::ts,τ::τs,v::vs,d::ds,ps,ht,h,hk,hv=>by
  obtain⟨p,q,⟨n,h1⟩,h2,rfl⟩:=h;obtain⟨⟨b,e,hT⟩,II⟩:=ht;obtain⟨y,hy⟩:=Tb n τ T b e _ _ hT h1 (hk d (by simp));obtain⟨HW,g1,g2,g3⟩:=R1 ts τs II h2 (λ d hd=>hk d (by simp[hd])) (λ j t v hj GY=>hv (j+1) t v hj GY);refine⟨⟨τ,y⟩::HW,by simp[g1],by simp[g2],⟨?_,g3⟩⟩;refine a1A τ y ?_ hy;have G7:=hv 0 T v rfl rfl;have key:∀ b,Value.okWide prog w .any b T v->Tm τ v:=by
   intro b' hb;cases τ with
   | st s =>
    cases ha:s.arr with
    | true =>
     obtain⟨e',hu,_⟩:=jh.arr hT ha;simp only[Value.okWide,hu] at hb;obtain⟨cs,rfl,_⟩:=hb;exact⟨cs,rfl⟩
    | false =>
    obtain⟨fs,hu,_⟩:=jh.st hT ha;simp only[Value.okWide,hu] at hb;obtain⟨cs,rfl,_⟩:=hb;exact⟨cs,rfl⟩
   | int k =>
    have hu:=jh.int hT;simp only[Value.okWide,hu,Cell.okWide,Cell.ok] at hb;cases v<;>first|rfl|cases hb
   | bool =>
    have hu:=jh.bool hT;simp only[Value.okWide,hu,Cell.okWide,Cell.ok] at hb;cases v<;>first|rfl|cases hb
   | str =>
    have hu:=jh.str hT;simp only[Value.okWide,hu,Cell.okWide,Cell.ok] at hb;cases v<;>first|rfl|cases hb
   | mv t=>exact (jh.ZN hT).elim
   | ptr =>
    obtain⟨t,hu⟩:=jh.ptr hT;simp only[Value.okWide,hu,Cell.okWide,Cell.ok] at hb;cases v<;>first|rfl|cases hb
   | slice t =>
    have hu:=(jh.slice hT).1;simp only[Value.okWide,hu,Cell.okWide,Cell.ok] at hb;cases v<;>first|rfl|cases hb
  rcases G7 with h|⟨b',h⟩
  .exact key _ h
  .exact key _ h
 | [],_::_,_,_,_,h,_,_,_=>h.elim
 | _::_,[],_,_,_,h,_,_,_=>h.elim
 | [],[],_::_,_,_,_,h,_,_=>h.elim
 | [],[],[],_::_,_,_,h,_,_=>h.elim
 | _::_,_::_,[],_,_,_,h,_,_=>h.elim
 | _::_,_::_,_::_,[],_,_,h,_,_=>h.elim
noncomputable def a2i(g:Nat):Bool:=g<prog.globals.size&&match ((begin prog (λ _ _=>0) default).world.heap[g]?).bind Obj.row? with
 | some (zero,t)=>zero.size == 1&&prog.buildable t&&(match prog.cellTypes prog.depth t with|some [u]=>u == t|_=>false)&&(match prog.underlying t with|some (.int .i64)=>true|_=>false)
 | none=>false
theorem WS:Ul.all a2i=true:=by kernel_rfl
theorem MJ{W:World}(h:W.ShapedOpen prog):iR W (·<W.heap.size):=⟨λ _ h=>h,λ g hg=>by
 have hk:=List.all_eq_true.1 WS g hg;unfold a2i at hk;rw[Bool.and_eq_true] at hk;obtain⟨h1,h2⟩:=hk;split at h2
 .rename_i zero t h0;simp only[a7H] at h2;obtain⟨⟨⟨k1,k2⟩,k3⟩,k4⟩:=h2;have k3':prog.cellTypes prog.depth t=some [t]:=by
   split at k3
   .rename_i u hu;rw[hu,eq_of_beq k3]
   .cases k3
  have k4':prog.underlying t=some (.int .i64):=by
   split at k4
   .rename_i hu;exact hu
   .cases k4
  obtain⟨m,hm⟩:=cell_of_shapedOpen_int h (of_decide_eq_true h1) h0 (eq_of_beq k1) k2 k3' k4';refine⟨?_,m,hm⟩;unfold World.cell? at hm;rcases Nat.lt_or_ge g W.heap.size with q|q
  .exact q
  .rw[show W.heap[g]?=none from a8P q] at hm;cases hm
 .cases h2⟩
theorem Zt{n:FuncId}{fn:Func}{s:ChangeSpec}{τs:List Ty}{handsOn again:Bool}(Xa:aM (λ T τ=>∃ b e,ag yO T=some (τ,b,e)) fn.params.toList τs)
  (Q3:∀ t∈fn.params.toList,prog.readableRec t=true/\t<prog.types.size) (hr:fn.resultTypes = #[FM]) (M4:s.vars=[])
  (hs:∀ ds:List (DataW H),ds.length=τs.length->s.fn H ds={ results:=[.lit (.bool true)],args:=ds })
  (a5P:∀ HW:List TV,HW.map TV.τ=τs->fO prog n (HW.map .val) (·=[⟨.bool,true⟩]))
  {W:World} {base:Nat} {args:Array Value} {ds gs:List (DataW H)} {before:List MemPlace}
  (SD:∀ (j:Nat) t v,fn.params[j]?=some t->args[j]?=some v->Value.okWide prog W .any base t v)
  (hW:DataW.Whole enc prog fn.params.toList s.vars false W args.toList ds gs before) (hk:Rows.uptoSmall H (ds++gs)=true) (W7:iR W (·<W.heap.size)) :
  Calls prog n args W λ e W'=>∃ v,e = .returned v/\s.post enc prog fn false true handsOn again W args v W':=by
 have hW':=hW;obtain⟨p,q,hA,hV,W5,hfz,cX⟩:=hW;rw[M4] at hV;obtain⟨rfl,rfl⟩:=trodVars_none hV;have Uv:∀ d∈ds,Rows.uptoBulk d<=1048576:=by
  intro d hd;have h1:=Hw hd;simp only[Rows.uptoSmall,a8z,a7D] at hk;omega
 obtain⟨HW,h1,h2,h3⟩:=R1 fn.params.toList τs Xa hA Uv (λ j t v hj GY => .inr ⟨base,SD j t v (by simpa using hj) (by simpa using GY)⟩);have jf:=a5P HW h1 W (·<W.heap.size) args.toList W7 h3;rw[show args.toList.toArray=args by simp] at jf;refine jf.mono λ e W'=>?_;rintro⟨x,S',res,rfl,rfl,iG,Uq,WU,PS⟩;have hx:x = .bool true:=by
  have hx:du W' S' ⟨.bool,true⟩ x:=PS;have hx:[x]=[Value.bool true]:=hx;simpa using hx
 subst hx;have hb:Below W.heap.size W W':=⟨iG.os,iG.tape,iG.output,iG.size,λ k hk=>iG.block k hk (λ h=>h)⟩;refine⟨_,rfl,S8 (pa:=p) (pv:=[]) hW' ?_ ?_ ?_ W5 hb ?_⟩
 .intro b sp hd;rw[hs _ (by simpa using h2),hr];exact trodAll_mk1 ⟨1,by
   have hu:prog.underlying FM=some .bool:=by kernel_rfl
   simp only[DataW.trod,Value.cells];rw[hu]⟩
 .intro sp Q4;rw[hs _ (by simpa using h2),List.append_nil];have bp:∀ x∈before,x.block<W.heap.size:=λ x hx=>hW'.lt x hx;rw[W5] at bp Q4;exact DY hb _ Q3 hA (λ x hx=>bp x (by simp[hx])) (λ x hx=>Q4 x (by simp[hx]))
 .intro sp Q4;rw[hs _ (by simpa using h2),M4];rfl
 .refine ok_one hr rfl ?_;have hu:prog.underlying FM=some .bool:=by kernel_rfl
  simp[Value.okWide,hu,Cell.okWide,Cell.ok]
end
end Go.Proofs.YtncejbehidimmaaGreatDoor

namespace Go.Proofs.YtncejbehidimmaaGreatDoor
def cg{α:Type}(f:α->Nat):List α->Nat
 | []=>0
 | x::xs=>f x+cg f xs
section
variable {α:Type} (f:α->Nat)
theorem kL(d:α):∀ (xs:List α) (k:Nat),k<xs.length->cg f (xs.take (k+1))=cg f (xs.take k)+f (xs.getD k d)
 | [],k,h=>by simp at h
 | x::xs,0,h=>by simp[cg]
 | x::xs,k+1,h=>by
  have:=kL d xs k (by simpa using h);simp[cg] at this ⊢;omega
theorem dH:∀ (xs:List α) (k:Nat),cg f (xs.take k)<=cg f xs
 | [],k=>by simp
 | x::xs,0=>by simp[cg]
 | x::xs,k+1=>by
  have:=dH xs k;simp[cg];omega
theorem pw(xs:List α)(k:Nat):xs.length<=k->cg f (xs.take k)=cg f xs:=λ h=>by rw[a8o h]
theorem xO(xs:List α):cg f (xs.take 0)=0:=by simp[cg]
theorem CA(d:α):∀ (xs:List α) (k:Nat),k<xs.length->f (xs.getD k d)<=cg f xs
 | [],k,h=>by simp at h
 | x::xs,0,h=>by simp[cg]
 | x::xs,k+1,h=>by
  have:=CA d xs k (by simpa using h);simp[cg] at this ⊢;omega
end
def lD(t:Nat)(left:Int):Int:=if (t:Int)<=left then left - t else -1
theorem kM(t:Nat)(left:Int):((t:Int)<=left/\lD t left=left - t)\/(left<(t:Int)/\lD t left = -1):=by
 unfold lD;split
 .exact .inl ⟨by assumption,rfl⟩
 .exact .inr ⟨by omega,rfl⟩
noncomputable def dT{α:Type}(a b:α):Bool := @decide (a=b) (Classical.propDecidable _)
theorem Pu{α:Type}{a b:α}(h:a=b):true=dT a b:=by simp[dT,h]
theorem Ew{α:Type}{a b:α}(h:a≠b):false=dT a b:=by simp[dT,h]
@[simp] theorem Mv{α:Type}{a b:α}:dT a b=true↔a=b:=by simp[dT]
@[simp] theorem Pt{α:Type}{a b:α}:dT a b=false↔a≠b:=by simp[dT]
@[simp] theorem a4o{α:Type}{a:α}:dT a a=true:=by simp[dT]
section
variable {α:Type}
theorem jS(d:α):∀ (xs:List α) (k:Nat),k<xs.length->xs.take (k+1)=xs.take k++[xs.getD k d]
 | [],k,h=>by simp at h
 | x::xs,0,h=>by simp
 | x::xs,k+1,h=>by
  have:=jS d xs k (by simpa using h);simp at this ⊢;exact this
theorem oH(d:α)(xs ys:List α)(k:Nat)(h1:k<xs.length)(h2:k<ys.length)(h:xs.take k=ys.take k)(e:xs.getD k d=ys.getD k d):xs.take (k+1)=ys.take (k+1):=by
 rw[jS d xs k h1,jS d ys k h2,h,e]
theorem ig(xs ys:List α)(k:Nat)(h1:xs.length<=k)(h2:ys.length<=k)(h:xs.take k=ys.take k):xs=ys:=by
 rwa [a8o h1,a8o h2] at h
def fill(xs:List α)(k:Nat)(z:α):List α:=xs.take k++List.replicate (xs.length - k) z
theorem Uf(xs:List α)(z:α):List.replicate xs.length z=fill xs 0 z:=by simp[fill]
theorem Px(xs:List α)(z:α)(k:Nat)(h:xs.length<=k):fill xs k z=xs:=by
 simp[fill,a8o h,Nat.sub_eq_zero_of_le h]
theorem Rj(xs:List α)(z:α)(k:Nat):k<=xs.length->(fill xs k z).length=xs.length:=by
 intro h;simp[fill];omega
theorem Py(xs:List α)(z d:α)(k:Nat)(h:k<xs.length):(fill xs k z).set k (xs.getD k d)=fill xs (k+1) z:=by
 unfold fill;rw[jS d xs k h,List.set_append_right _ _ (by simp;omega)];have e:xs.length - k=(xs.length - (k+1))+1:=by omega
 have e2:(List.take k xs).length=k:=by simp;omega
 rw[e2,Nat.sub_self,e,b0h,b1J];simp
end
def ic{α:Type}(f:α->Nat):List α->Nat
 | []=>0
 | x::xs=>max (f x) (ic f xs)
section
variable {α:Type} (f:α->Nat)
theorem ot(d:α):∀ (xs:List α) (k:Nat),k<xs.length->ic f (xs.take (k+1))=max (ic f (xs.take k)) (f (xs.getD k d))
 | [],k,h=>by simp at h
 | x::xs,0,h=>by simp[ic]
 | x::xs,k+1,h=>by
  have:=ot d xs k (by simpa using h);simp[ic] at this ⊢;omega
theorem gI:∀ (xs:List α) (k:Nat),ic f (xs.take k)<=ic f xs
 | [],k=>by simp
 | x::xs,0=>by simp[ic]
 | x::xs,k+1=>by
  have:=gI xs k;simp[ic];omega
theorem xx(xs:List α)(k:Nat):xs.length<=k->ic f (xs.take k)=ic f xs:=λ h=>by rw[a8o h]
theorem NA(xs:List α):ic f (xs.take 0)=0:=by simp[ic]
theorem Nz(d:α):∀ (xs:List α) (k:Nat),k<xs.length->f (xs.getD k d)<=ic f xs
 | [],k,h=>by simp at h
 | x::xs,0,h=>by simp[ic];omega
 | x::xs,k+1,h=>by
  have:=Nz d xs k (by simpa using h);simp[ic] at this ⊢;omega
end
def cE{α:Type}(f:α->Bool):List α->Bool
 | []=>true
 | x::xs=>f x&&cE f xs
section
variable {α:Type} (f:α->Bool)
theorem FQ:∀ (xs ys:List α),cE f (xs++ys)=(cE f xs&&cE f ys)
 | [],ys=>by simp[cE]
 | x::xs,ys=>by simp[cE,FQ xs ys,Bool.and_assoc]
theorem dX(d:α)(xs:List α)(k:Nat)(h:k<xs.length):cE f (xs.take (k+1))=(cE f (xs.take k)&&f (xs.getD k d)):=by
 rw[jS d xs k h,FQ];simp[cE]
theorem eC(d:α):∀ (xs:List α) (k:Nat),k<xs.length->f (xs.getD k d)=false->cE f xs=false
 | [],k,h,_=>by simp at h
 | x::xs,0,h,e=>by simp at e;simp[cE,e]
 | x::xs,k+1,h,e=>by
  have:=eC d xs k (by simpa using h) (by simpa using e);simp[cE,this]
theorem ep(xs:List α)(k:Nat):xs.length<=k->cE f (xs.take k)=cE f xs:=λ h=>by rw[a8o h]
theorem all_zero(xs:List α):cE f (xs.take 0)=true:=by simp[cE]
theorem Ce(d:α):∀ (xs:List α) (k:Nat),k<xs.length->cE f xs=true->f (xs.getD k d)=true
 | [],k,h,_=>by simp at h
 | x::xs,0,h,e=>by simp[cE] at e;simp[e.1]
 | x::xs,k+1,h,e=>by
  simp only[cE,Bool.and_eq_true] at e;have:=Ce d xs k (by simpa using h) e.2;simpa using this
end
end Go.Proofs.YtncejbehidimmaaGreatDoor

namespace Go.Proofs.YtncejbehidimmaaGreatDoor
noncomputable section
mutual
def aU:J->Nat
 | ⟨_,_,O⟩=>O.length+rL O
def rL:List J->Nat
 | []=>0
 | k::ks=>aU k+rL ks
end
def HP:∀ xs,rL xs=cg aU xs
 | []=>rfl
 | x::xs=>by rw[rL,cg,HP xs]
def vF(x:J):aU x=(x.O.length+cg aU x.O):=by
 cases x;simp[aU,HP];try omega
def lQ(n:Nat):aW:=⟨tC,[.v (.st .expr), .v (.int .i64)],λ (x:J) (left:Int)=>⟨(some (bu x<n/\0<=left/\left<=1048576),[⟨(.int .i64),lD (aU x) left⟩])⟩⟩
def Bu:aW:=⟨tC,[.v (.st .expr), .v (.int .i64)],λ (x:J) (left:Int)=>⟨(some (0<=left/\left<=1048576),[⟨(.int .i64),lD (aU x) left⟩])⟩⟩
def ku(n:Nat):aW:=⟨qA,[.v (.slice (.st .expr)), .v (.int .i64)],λ (xs:List J) (left:Int)=>⟨(some (bu xs<n/\0<=left/\left<=1048576),[⟨(.int .i64),lD (xs.length+cg aU xs) left⟩])⟩⟩
def zt:aW:=⟨qA,[.v (.slice (.st .expr)), .v (.int .i64)],λ (xs:List J) (left:Int)=>⟨(some (0<=left/\left<=1048576),[⟨(.int .i64),lD (xs.length+cg aU xs) left⟩])⟩⟩
def Nj(x:J)(left:Int):Nat->aL:=cB
def Li(n:Nat)(hE:bj [ku n]):aW.Good (lQ (n+1)):=by
 refine⟨aD lI,?_⟩;intro (x:J) (left:Int) (hp:bu x<n+1/\0<=left/\left<=1048576);refine aV [ku n] [] [] [2] hE lI F5 (Nj x left) (let v0:=lD (x.O.length+cg aU x.O) left;((x.O.length<=140737488355328->((bu x.O<n/\0<=left/\left<=1048576)/\(au v0->(((decide (v0<(0:Int)))=true->(-1:Int)=(lD (aU x) left))/\((decide (v0<(0:Int)))=false->v0=(lD (aU x) left)))))))) ?_;have f0:=kM (x.O.length+cg aU x.O) (left);have fz:=kM ((x.O.length+cg aU x.O)) left;have f0k:=er x;refine λ _=>⟨?_,λ _=>⟨λ _=>?_,λ _=>?_⟩⟩;all_goals try and_intros
 all_goals try rw[vF]
 all_goals first|rfl|trivial|omega|(simp only[a7D,a7C,aE,au,cI,iE,cN,bB] at *;omega)|(simp[aE,au] at *;omega)|grind
def KU(xs:List J)(left:Int):Nat->aL:=(eS 0 (.b (Nat) (λ k=>k<=xs.length/\(xs.length+cg aU (xs.take k):Int)<=left) (λ k=>xs.length - k) [6,7,8,9,10,11] (λ k=>[(5, .aQ ⟨(.int .i64),((k:Int):Int)⟩),(1, .aQ ⟨(.int .i64),(left - (xs.length+cg aU (xs.take k):Int):Int)⟩)])) cB)
def Je(n:Nat)(hE:bj [lQ n]):aW.Good (ku (n+1)):=by
 refine⟨aD jY,?_⟩;intro (xs:List J) (left:Int) (hp:bu xs<n+1/\0<=left/\left<=1048576);refine aV [lQ n] [] [] [] hE jY Ed (KU xs left) (let v0:=(xs.length:Int);let v1:=lD (xs.length+cg aU xs) left;let v2:=decide ((left - v0)<(0:Int));((au v0->(au (left - v0)/\((v2=true->(-1:Int)=v1)/\(v2=false->((∃ k1:Nat,let v3:=(xs.length+cg aU (xs.take k1):Int);((k1<=xs.length/\v3<=left)/\((xs=xs/\((left - v0)=(left - v3)/\((0:Int)=(k1:Int)/\True)))/\True)))/\(∀ k1:Nat,let v5:=(xs.length+cg aU (xs.take k1):Int);let v3:=left - v5;let v4:=lD (aU (xs.getD k1 zE)) v3;((k1<=xs.length/\v5<=left)->(au v0->(((decide ((k1:Int)<v0))=true->(aE (k1:Int) xs.length/\((bu (xs.getD k1 zE)<n/\0<=v3/\v3<=1048576)/\(au v4->(((decide (v4<(0:Int)))=true->(-1:Int)=v1)/\((decide (v4<(0:Int)))=false->(au ((k1:Int)+(1:Int))/\(∃ k2:Nat,let v6:=(xs.length+cg aU (xs.take k2):Int);((k2<=xs.length/\v6<=left)/\(xs.length - k2<xs.length - k1/\((xs=xs/\(v4=(left - v6)/\(((k1:Int)+(1:Int))=(k2:Int)/\True)))/\True)))))))))))/\((decide ((k1:Int)<v0))=false->v3=v1)))))))))))) ?_;have f0:=kM (xs.length+cg aU xs) left;have f1:=xO aU xs;refine λ _=>⟨?_,λ _=>?_,λ _=>⟨⟨0,?_,⟨rfl,?_,?_,af⟩,af⟩,λ k1 _=>have a4B:=kL aU zE xs k1;have a4C:=dH aU xs k1;have a4D:=dH aU xs (k1+1);have a4E:=pw aU xs k1;have a4F:=cf zE xs k1;have a6P:=kM (aU (xs.getD k1 zE)) (left - (xs.length+cg aU (xs.take k1):Int));λ _=>⟨λ _=>⟨?_,?_,λ _=>⟨λ _=>?_,λ _=>⟨?_,k1+1,?_,?_,⟨rfl,?_,?_,af⟩,af⟩⟩⟩,λ _=>?_⟩⟩⟩;all_goals try and_intros
 all_goals first|rfl|trivial|omega|(simp only[a7D,a7C,aE,au,cI,iE,cN,bB] at *;omega)|(simp[aE,au] at *;omega)|grind
def xW :∀ n,bj [lQ n,ku n]
 | 0=>⟨⟨aD lI,λ _ _ h=>absurd h.1 (a8a _)⟩,⟨aD jY,λ _ _ h=>absurd h.1 (a8a _)⟩,af⟩
 | n+1=>by
  have ih:=xW  n;exact⟨Li n ⟨ih.2.1,af⟩,Je n ⟨ih.1,af⟩,af⟩
def GI :aW.Good Bu :=
 ⟨aD lI,λ x left hp=>(xW  (bu x+1)).1.2 x left (⟨a7M _,hp⟩)⟩
def EF :aW.Good zt :=
 ⟨aD jY,λ xs left hp=>(xW  (bu xs+1)).2.1.2 xs left (⟨a7M _,hp⟩)⟩
def DD:aW:=⟨DN,[.v (.st .sig)],λ (x:aG)=>⟨(none,[⟨(.st .sig),x⟩])⟩⟩
def OV(x:aG):Nat->aL:=cB
def Ix:aW.Good DD:=by
 refine⟨aD AE,?_⟩;intro (x:aG) _;refine aV [] [] [] [1] trivial AE Ih (OV x) ((au x.aS->(au x.av->x=x))) ?_;refine λ a0=>λ a1=>rfl;all_goals try and_intros
 all_goals first|rfl|trivial|omega|(simp only[a7D,a7C,aE,au,cI,iE,cN,bB] at *;omega)|(simp[aE,au] at *;omega)|grind
def lR(n:Nat):aW:=⟨tD,[.v (.st .expr)],λ (x:J)=>⟨(some (bu x<n/\aU x<=1048576),[⟨(.st .expr),x⟩])⟩⟩
def Bv:aW:=⟨tD,[.v (.st .expr)],λ (x:J)=>⟨(some (aU x<=1048576),[⟨(.st .expr),x⟩])⟩⟩
def kv(n:Nat):aW:=⟨qB,[.v (.slice (.st .expr))],λ (xs:List J)=>⟨(some (bu xs<n/\xs.length+cg aU xs<=1048576),[⟨(.slice (.st .expr)),xs⟩])⟩⟩
def zu:aW:=⟨qB,[.v (.slice (.st .expr))],λ (xs:List J)=>⟨(some (xs.length+cg aU xs<=1048576),[⟨(.slice (.st .expr)),xs⟩])⟩⟩
def Nk(x:J):Nat->aL:=cB
def Lj(n:Nat)(hE:bj [kv n]):aW.Good (lR (n+1)):=by
 refine⟨aD lJ,?_⟩;intro (x:J) (hp:bu x<n+1/\aU x<=1048576);refine aV [kv n] [] [] [1] hE lJ F6 (Nk x) ((au x.ai->(au x.aZ->(x.O.length<=140737488355328->((bu x.O<n/\x.O.length+cg aU x.O<=1048576)/\(x.O.length<=140737488355328->(aP x)=x)))))) ?_;rw[vF] at hp;have f0k:=er x;refine λ _ _ _=>⟨?_,λ _=>?_⟩;all_goals try and_intros
 all_goals try (first|with_reducible rfl|with_reducible assumption)
 all_goals try simp only[J.eta,cu] at *
 all_goals first|rfl|trivial|omega|(simp only[a7D,a7C,aE,au,cI,iE,cN,bB] at *;omega)|(simp[aE,au] at *;omega)|grind
def KV(xs:List J):Nat->aL:=(eS 0 (.a (Nat) (λ k=>k<=xs.length) (λ k=>xs.length - k) [2,5,6,7] (λ k=>[(4, .aQ ⟨(.int .i64),((k:Int):Int)⟩),(3, .row 7)]) [] (λ k=>[(7, .row eh (.st .expr) (fill xs k zE:List J))])) cB)
def Jf(n:Nat)(hE:bj [lR n]):aW.Good (kv (n+1)):=by
 refine⟨aD jZ,?_⟩;intro (xs:List J) (hp:bu xs<n+1/\xs.length+cg aU xs<=1048576);refine aV [lR n] [] [] [] hE jZ Ee (KV xs) (let v0:=(xs.length:Int);((au v0->(cN v0 v0 40/\((∃ k1:Nat,(k1<=xs.length/\((xs=xs/\(True/\((0:Int)=(k1:Int)/\True)))/\((List.replicate (Int.toNat v0) zE)=(fill xs k1 zE)/\True))))/\(∀ k1:Nat,let v1:=(k1:Int);(k1<=xs.length->(au v0->(((decide (v1<v0))=true->(aE v1 xs.length/\((bu (xs.getD k1 zE)<n/\aU (xs.getD k1 zE)<=1048576)/\(aE v1 (fill xs k1 zE).length/\(au (v1+(1:Int))/\(∃ k2:Nat,(k2<=xs.length/\(xs.length - k2<xs.length - k1/\((xs=xs/\(True/\((v1+(1:Int))=(k2:Int)/\True)))/\(((fill xs k1 zE).set k1 (xs.getD k1 zE))=(fill xs k2 zE)/\True))))))))))/\((decide (v1<v0))=false->(fill xs k1 zE)=xs)))))))))) ?_;refine λ _=>⟨?_,⟨0,?_,⟨rfl,af,?_,af⟩,?_,af⟩,λ k1 _=>have a4y:=Px xs zE k1;have a4z:=Rj xs zE k1;have a4A:=Py xs zE zE k1;have a6N:=CA aU zE xs k1;have a6O:=cf zE xs k1;λ _=>⟨λ _=>⟨?_,?_,?_,?_,k1+1,?_,?_,⟨rfl,af,?_,af⟩,?_,af⟩,λ _=>?_⟩⟩;all_goals try and_intros
 all_goals first|rfl|trivial|omega|(simp only[a7D,a7C,aE,au,cI,iE,cN,bB] at *;omega)|(simp[aE,au] at *;omega)|grind|exact Uf xs _|(simp only[a7D,a7C] at *;first|exact Py _ _ _ _ (by omega)|exact Px _ _ _ (by omega)|(simp only[cN];omega))
def xX :∀ n,bj [lR n,kv n]
 | 0=>⟨⟨aD lJ,λ _ h=>absurd h.1 (a8a _)⟩,⟨aD jZ,λ _ h=>absurd h.1 (a8a _)⟩,af⟩
 | n+1=>by
  have ih:=xX  n;exact⟨Lj n ⟨ih.2.1,af⟩,Jf n ⟨ih.1,af⟩,af⟩
def GJ :aW.Good Bv :=
 ⟨aD lJ,λ x hp=>(xX  (bu x+1)).1.2 x (⟨a7M _,hp⟩)⟩
def EG :aW.Good zu :=
 ⟨aD jZ,λ xs hp=>(xX  (bu xs+1)).2.1.2 xs (⟨a7M _,hp⟩)⟩
def lP(n:Nat):aW:=⟨tB,[.v (.st .expr), .v (.st .expr)],λ (x:J) (y:J)=>⟨(some (bu x<n),[⟨.bool,dT x y⟩])⟩⟩
def Bt:aW:=⟨tB,[.v (.st .expr), .v (.st .expr)],λ (x:J) (y:J)=>⟨(none,[⟨.bool,dT x y⟩])⟩⟩
def kr(n:Nat):aW:=⟨qz,[.v (.slice (.st .expr)), .v (.slice (.st .expr))],λ (xs:List J) (ys:List J)=>⟨(some (bu xs<n),[⟨.bool,dT xs ys⟩])⟩⟩
def zq:aW:=⟨qz,[.v (.slice (.st .expr)), .v (.slice (.st .expr))],λ (xs:List J) (ys:List J)=>⟨(none,[⟨.bool,dT xs ys⟩])⟩⟩
def Ni(x:J)(y:J):Nat->aL:=cB
def Lh(n:Nat)(hE:bj [kr n]):aW.Good (lP (n+1)):=by
 refine⟨aD lH,?_⟩;intro (x:J) (y:J) (hp:bu x<n+1);refine aV [kr n] [] [] [2,3] hE lH F4 (Ni x y) ((au x.ai->(au y.ai->(((!(decide (x.ai=y.ai)))=true->false=(dT x y))/\((!(decide (x.ai=y.ai)))=false->(au x.aZ->(au y.aZ->(((!(decide (x.aZ=y.aZ)))=true->false=(dT x y))/\((!(decide (x.aZ=y.aZ)))=false->(x.O.length<=140737488355328->(y.O.length<=140737488355328->(bu x.O<n/\(((!(dT x.O y.O))=true->false=(dT x y))/\((!(dT x.O y.O))=false->true=(dT x y))))))))))))))) ?_;have f0k:=er x;refine λ _ _=>⟨λ _=>?_,λ _ _ _=>⟨λ _=>?_,λ _ _ _=>⟨?_,λ _=>?_,λ _=>?_⟩⟩⟩;all_goals try and_intros
 all_goals first|rfl|trivial|(simp only[a7D,a7C,aE,au] at *;omega)|(refine Ew λ Bb=>?_;subst Bb;simp_all)|(refine Pu ?_;cases x;cases y;simp_all)
def KS(xs:List J)(ys:List J):Nat->aL:=(eS 0 (.b (Nat) (λ k=>k<=xs.length/\xs.length=ys.length/\xs.take k=ys.take k) (λ k=>xs.length - k) [6,7,8,9,10] (λ k=>[(5, .aQ ⟨(.int .i64),((k:Int):Int)⟩)])) cB)
def Jd(n:Nat)(hE:bj [lP n]):aW.Good (kr (n+1)):=by
 refine⟨aD jX,?_⟩;intro (xs:List J) (ys:List J) (hp:bu xs<n+1);refine aV [lP n] [] [] [] hE jX Ec (KS xs ys) (let v0:=(xs.length:Int);let v1 := !(decide (v0=((ys.length:Int))));((au v0->(au ((ys.length:Int))->((v1=true->false=(dT xs ys))/\(v1=false->((∃ k1:Nat,((k1<=xs.length/\xs.length=ys.length/\xs.take k1=ys.take k1)/\((xs=xs/\(ys=ys/\((0:Int)=(k1:Int)/\True)))/\True)))/\(∀ k1:Nat,let v2 := !(dT (xs.getD k1 zE) (ys.getD k1 zE));let v3:=(k1:Int);((k1<=xs.length/\xs.length=ys.length/\xs.take k1=ys.take k1)->(au v0->(((decide (v3<v0))=true->(aE v3 xs.length/\(aE v3 ys.length/\(bu (xs.getD k1 zE)<n/\((v2=true->false=(dT xs ys))/\(v2=false->(au (v3+(1:Int))/\(∃ k2:Nat,((k2<=xs.length/\xs.length=ys.length/\xs.take k2=ys.take k2)/\(xs.length - k2<xs.length - k1/\((xs=xs/\(ys=ys/\((v3+(1:Int))=(k2:Int)/\True)))/\True)))))))))))/\((decide (v3<v0))=false->true=(dT xs ys))))))))))))) ?_;refine λ _ _=>⟨λ _=>?_,λ _=>⟨⟨0,?_,⟨rfl,rfl,?_,af⟩,af⟩,λ k1 _=>have a4G:=oH zE xs ys k1;have a4H:=ig xs ys k1;have a4I:=cf zE xs k1;λ _=>⟨λ _=>⟨?_,?_,?_,λ _=>?_,λ _=>⟨?_,k1+1,?_,?_,⟨rfl,rfl,?_,af⟩,af⟩⟩,λ _=>?_⟩⟩⟩;all_goals try and_intros
 all_goals first|rfl|trivial|(simp only[a7D,a7C,a8e,decide_not,a7V,aE,au] at *;first|omega|(refine Ew λ Bb=>?_;subst Bb;simp_all;done)|(refine Pu (ig _ _ _ (by omega) (by omega) (by simp_all))))|(refine Ew λ Bb=>?_;subst Bb;simp_all;done)|(simp_all;done)|(refine oH zE _ _ _ (by simp_all;omega) (by simp_all;omega) (by simp_all) ?_;simp_all;done)
def xV :∀ n,bj [lP n,kr n]
 | 0=>⟨⟨aD lH,λ _ _ h=>absurd h (a8a _)⟩,⟨aD jX,λ _ _ h=>absurd h (a8a _)⟩,af⟩
 | n+1=>by
  have ih:=xV  n;exact⟨Lh n ⟨ih.2.1,af⟩,Jd n ⟨ih.1,af⟩,af⟩
def GH :aW.Good Bt :=
 ⟨aD lH,λ x y hp=>(xV  (bu x+1)).1.2 x y (a7M _)⟩
def EE :aW.Good zq :=
 ⟨aD jX,λ xs ys hp=>(xV  (bu xs+1)).2.1.2 xs ys (a7M _)⟩
end
end Go.Proofs.YtncejbehidimmaaGreatDoor

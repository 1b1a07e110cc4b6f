/- Operations whose order is open: the theorem, joined. -/
import Derived.Test.YtmdefiphdgcijaaDoorVmDraw2
set_option linter.unusedVariables false
set_option linter.unusedSimpArgs false
namespace Go.Proofs.YtmdefiphdgcijaaDoor
theorem c1o{l:List Oper}{D:Nat→Prop}(hD:∀ (k:Nat),D k→∀ (o:Oper),l[k]?=some o→∀ e∈o.after.toList,Region.binds .any e=true→D e.on):∀ (i:Nat) (o:Oper),l[i]?=some o→(∀ e∈o.after.toList,Region.binds .any e=true→D e.on) →
  ∀ k,Nat.testBit ((a0u l []).getD i 0) k=true→D k:=by
 obtain⟨r,h1,h2,h3⟩:=b8s l []
 rw[h1]
 simp only[List.nil_append,List.length_nil,Nat.zero_add] at h3 ⊢
 intro i
 induction i using Nat.strongRecOn with
 | _ i ih =>
  intro o ho hdep k hk
  obtain⟨e,he,hb,h⟩:=h3 i o ho k hk
  have hde:=hdep e he hb
  rcases h with rfl|⟨hlt,h⟩
  ·exact hde
  ·have hll:i<l.length:=(List.getElem?_eq_some_iff.1 ho).1
   have hp:l[e.on]?=some (l[e.on]'(by omega)):=List.getElem?_eq_getElem (by omega)
   exact ih e.on hlt _ hp (fun e' he' hb'=>hD e.on hde _ hp e' he' hb') k h
theorem a1e{l:List Oper}(h:a8h l=true):∀ (i:Nat) (o:Oper),l[i]?=some o→∀ e∈o.after.toList,Region.binds .any e=true→e.on<i:=by
 intro i o ho e he hb
 unfold a8h at h
 rw[List.all_eq_true] at h
 have hi:i<l.length:=(List.getElem?_eq_some_iff.1 ho).1
 have:=h i (by simpa using hi)
 rw[ho] at this
 simp only[List.all_eq_true] at this
 have:=this e he
 rw[hb] at this
 simpa [Nat.blt_eq] using this
theorem c7l:∀ {ds:List (Option Nat)},c6b ds=true→(∀ d∈ds,∃ t,d=some t)∧∀ (j k t:Nat),ds[j]?=some (some t)→ds[k]?=some (some t)→j=k
 | [],_=>⟨by simp,by simp⟩
 | none::_,h=>by cases h
 | some d::r,h=>by
  simp only[c6b] at h
  split at h
  ·cases h
  ·rename_i hany
   obtain⟨h1,h2⟩:=c7l h
   have hno:∀ x∈r,x≠some d:=by
    intro x hx e
    subst e
    rw[List.any_eq_false] at hany
    have:=hany _ hx
    simp at this
   refine⟨fun x hx=>?_,fun j k t hj hk=>?_⟩
   ·rcases List.mem_cons.1 hx with rfl|hx
    ·exact⟨d,rfl⟩
    ·exact h1 x hx
   ·cases j with
    | zero =>
     simp at hj
     subst hj
     cases k with
     | zero=>rfl
     | succ k=>exact absurd rfl (hno _ (List.mem_of_getElem? (by simpa using hk)))
    | succ j =>
     cases k with
     | zero =>
      simp at hk
      subst hk
      exact absurd rfl (hno _ (List.mem_of_getElem? (by simpa using hj)))
     | succ k=>rw[h2 j k t (by simpa using hj) (by simpa using hk)]
theorem a4h{ops:Array Oper}{listed:Array Bool}{i:Nat}(hs:listed.size=ops.size):i∈Region.ready .any ops listed↔∃ o,ops[i]?=some o∧listed.getD i false=false∧∀ e∈o.after.toList,Region.binds .any e=true→listed.getD e.on false=true:=by
 unfold Region.ready
 simp only[List.mem_filter,List.mem_range,Bool.and_eq_true,Bool.not_eq_true']
 constructor
 ·rintro⟨hi,h1,h2⟩
  have ho:ops[i]?=some ops[i]:=Array.getElem?_eq_getElem hi
  rw[ho] at h2
  simp only[Option.map_some,Option.getD_some] at h2
  refine⟨_,ho,?_,fun e he hb=>?_⟩
  ·have:i<listed.size:=by omega
   simpa [Array.getD_eq_getD_getElem?,this] using h1
  ·rw[Array.all_eq_true_iff_forall_mem] at h2
   have:=h2 e (by simpa using he)
   simpa [hb] using this
 ·rintro⟨o,ho,h1,h2⟩
  have hi:i<ops.size:=(Array.getElem?_eq_some_iff.1 ho).1
  refine⟨hi,?_,?_⟩
  ·have:i<listed.size:=by omega
   simpa [Array.getD_eq_getD_getElem?,this] using h1
  ·rw[ho]
   simp only[Option.map_some,Option.getD_some]
   rw[Array.all_eq_true_iff_forall_mem]
   intro e he
   cases hb:Region.binds .any e with
   | false=>simp
   | true=>simp[h2 e (by simpa using he) hb]
theorem b5b{listed:Array Bool}{i k:Nat}(hi:i<listed.size):(listed.setIfInBounds i true).getD k false=true↔listed.getD k false=true∨k=i:=by
 rw[Array.getD_eq_getD_getElem?,Array.getD_eq_getD_getElem?,Array.getElem?_setIfInBounds]
 by_cases h:i=k
 ·subst h;simp[hi]
 ·simp[h,Ne.symm h]
section
variable {c:Ctx} {G:Gh} {s:a0c} {a:Act} {w w':World}
theorem d2s(hE:a0r c.P c.E){ops:Array Oper}{m:Nat}(hback:a8h ops.toList=true)(hchain:∀ j o,m≤j→ops.toList[j]?=some o→∀ k,k<j→Nat.testBit ((a0u ops.toList []).getD j 0) k=true)
  {Q:a0c→Prop} {Q':Exit→Act→World→Prop} (hQ:∀ G s a w,Inv c G s a w→Q s→Q' .normal a w) :
  ∀ (fuel j:Nat) (kn:List (Nat×Bool)) (G:Gh) (s:a0c) (a:Act) (w:World) (listed:Array Bool),m≤j→ops.size≤j+fuel→listed.size=ops.size→(∀ k,k<ops.size→(listed.getD k false=true↔k<j)) →
   Inv c G s a w→a3q c.E ops (ops.toList.drop j) kn Q s→wpAny c.P .any ops Q' fuel listed a w:=by
 intro fuel
 induction fuel with
 | zero =>
  intro j kn G s a w listed hmj hf hsz hl hI hr
  have hnil:ops.toList.drop j=[]:=List.drop_eq_nil_of_le (by simp;omega)
  rw[hnil] at hr
  refine⟨?_,hQ _ _ _ _ hI hr⟩
  apply List.eq_nil_iff_forall_not_mem.2
  intro i hi
  obtain⟨o,ho,h1,_⟩:=(a4h hsz).1 hi
  have hlt:=(Array.getElem?_eq_some_iff.1 ho).1
  have:=(hl i hlt).2 (by omega)
  rw[h1] at this
  cases this
 | succ fuel ih =>
  intro j kn G s a w listed hmj hf hsz hl hI hr
  by_cases hj:j<ops.size
  ·have ho:ops[j]?=some ops[j]:=Array.getElem?_eq_getElem hj
   have hdrop:ops.toList.drop j=ops[j]::ops.toList.drop (j+1):=by
    rw[List.drop_eq_getElem_cons (by simpa using hj)]
    simp
   rw[hdrop] at hr
   constructor
   ·intro hnil
    have:j∈Region.ready .any ops listed:=(a4h hsz).2 ⟨_,ho,by
     cases hb:listed.getD j false with
     | false=>rfl
     | true=>have:=(hl j hj).1 hb;omega,fun e he hb=>by
     have:=a1e hback j ops[j] (by simp) e he hb
     exact (hl e.on (by omega)).2 this⟩
    rw[hnil] at this
    cases this
   ·intro i hi
    obtain⟨o,hio,h1,h2⟩:=(a4h hsz).1 hi
    have hilt:=(Array.getElem?_eq_some_iff.1 hio).1
    have hge:j≤i:=by
     rcases Nat.lt_or_ge i j with h|h
     ·have:=(hl i hilt).2 h
      rw[h1] at this
      cases this
     ·exact h
    have hij:i=j:=by
     rcases Nat.lt_or_ge j i with h|h
     ·have hin:=c1o (l:=ops.toList) (D:=fun k=>k<j) (fun k hk o' ho' e he hb=>by
       have:=a1e hback k o' ho' e he hb;omega) i o (by simpa using hio) (fun e he hb=>by
        have hlt:=a1e hback i o (by simpa using hio) e he hb
        exact (hl e.on (by omega)).1 (h2 e he hb)) j (hchain i o (by omega) (by simpa using hio) j h)
      omega
     ·omega
    subst hij
    have hoe:o=ops[i]:=by rw[ho] at hio;exact (Option.some.inj hio).symm
    have hset:∀ k,k<ops.size→((listed.setIfInBounds i true).getD k false=true↔k<i+1):=fun k hk=>by
     rw[b5b (by omega),hl k hk];omega
    unfold wpOp
    simp only[ho]
    have hstep:=c2r hE hI hr
    split at hstep
    ·rename_i hw
     rw[if_pos hw]
     exact .inl (Oper.wp_mono (fun a' w' ⟨G',s',kn',h1,h2⟩=>ih (i+1) kn' G' s' a' w' _ (by omega) (by omega) (by rw[Array.size_setIfInBounds];exact hsz) hset h1 h2) (hstep Q'))
    ·rename_i hw
     rw[if_neg hw]
     obtain⟨G',s',kn',h1,h2⟩:=hstep
     exact ih (i+1) kn' G' s' _ w _ (by omega) (by omega) (by rw[Array.size_setIfInBounds];exact hsz) hset h1 h2
  ·have hnil:ops.toList.drop j=[]:=List.drop_eq_nil_of_le (by simp;omega)
   rw[hnil] at hr
   have hrd:Region.ready .any ops listed=[]:=by
    apply List.eq_nil_iff_forall_not_mem.2
    intro i hi
    obtain⟨o,ho,h1,_⟩:=(a4h hsz).1 hi
    have hlt:=(Array.getElem?_eq_some_iff.1 ho).1
    have:=(hl i hlt).2 (by omega)
    rw[h1] at this
    cases this
   exact⟨fun _=>hQ _ _ _ _ hI hr,fun i hi=>by rw[hrd] at hi;cases hi⟩
theorem c9o{l:List Oper}{ops:Array Oper}(hl:ops.toList=l){bits:Nat}{o:Oper}{ran:Bool}(h:Inv c G s a w)(hg:a4s l bits s o ran):Region.wanted o (yielded ops a.tmps)=ran:=by
 unfold a4s at hg
 split at hg
 ·rename_i hn
  simp[Region.wanted,hn,hg]
 ·rename_i g want hn
  obtain⟨t,v,h1,_,h3,h4⟩:=hg
  have hx:=a0p h (.tmp t)
  rw[h3] at hx
  have hs:b7l ops g=some t:=by
   unfold b7l
   rw[←h1]
   unfold a1f
   rw[←hl]
   simp
  unfold GV at h4
  split at h4
  ·have hy:=c9n (s:=s) hs hx
   simp[Region.wanted,hn,hy,h4]
  ·have hy:=c6k (s:=s) hs hx
   simp[Region.wanted,hn,hy,h4]
  ·exact h4.elim
theorem e4y(hE:a0r c.P c.E){ops:Array Oper}{m:Nat}{es:List Ent}{s0:a0c}(hback:a8h ops.toList=true)(hm:m≤ops.size)
  (hchain:∀ j o,m≤j→ops.toList[j]?=some o→∀ k,k<j→Nat.testBit ((a0u ops.toList []).getD j 0) k=true)
  (hdst:∀ j k t,j<m→k<m→a1f ops.toList j=some t→a1f ops.toList k=some t→j=k)
  (hent:∀ i o,i<m→ops.toList[i]?=some o→d4q c.E ops.toList m ((a0u ops.toList []).getD i 0) (stL ops.toList es s0 (List.range i)) o (es.getD i ⟨false, .any,none⟩))
  (hd4:∀ i o,i<m→ops.toList[i]?=some o→b3a o.dst=true) (hnone:∀ i o t,i<m→ops.toList[i]?=some o→b6d o.op=true→o.dst=some t→s0.look t=none)
  {Q:a0c→Prop} {Q':Exit→Act→World→Prop} (hQ:∀ G s a w,Inv c G s a w→Q s→Q' .normal a w) {kn:List (Nat×Bool)} (hend:∀ G a w,Inv c G (stL ops.toList es s0 (List.range m)) a w→a3q c.E ops (ops.toList.drop m) kn Q (stL ops.toList es s0 (List.range m))) :
  ∀ (fuel:Nat) (π:List Nat) (G:Gh) (a:Act) (w:World) (listed:Array Bool),ops.size=π.length+fuel→π.Nodup→(∀ k∈π,k<m)→listed.size=ops.size→(∀ k,k<ops.size→(listed.getD k false=true↔k∈π)) →
   (∀ k∈π,∀ o,ops.toList[k]?=some o→∀ e∈o.after.toList,Region.binds .any e=true→e.on∈π)→Inv c G (stL ops.toList es s0 π) a w→wpAny c.P .any ops Q' fuel listed a w:=by
 intro fuel
 induction fuel with
 | zero =>
  intro π G a w listed hf hn hlt hsz hl hclosed hI
  have hlen:=b6q m π hn hlt
  have hall:∀ k,k<m→k∈π:=fun k hk=>by
   cases hb:decide (k∈π) with
   | true=>exact of_decide_eq_true hb
   | false =>
    have:=b6q m (k::π) (List.nodup_cons.2 ⟨of_decide_eq_false hb,hn⟩) (fun j hj=>by
     rcases List.mem_cons.1 hj with rfl|hj
     ·exact hk
     ·exact hlt j hj)
    simp at this
    omega
  suffices hI':Inv c G (stL ops.toList es s0 (List.range m)) a w from d2s hE hback hchain hQ 0 m kn G (stL ops.toList es s0 (List.range m)) a w listed (Nat.le_refl _) (by omega) hsz (fun k hk=>by rw[hl k hk];exact⟨hlt k,hall k⟩) hI' (hend G a w hI')
  have heq:∀ t,(stL ops.toList es s0 π).sl t=(stL ops.toList es s0 (List.range m)).sl t∧(stL ops.toList es s0 π).look t=(stL ops.toList es s0 (List.range m)).look t:=fun t =>
   d8a (bits:=2 ^ m - 1) hdst hlt (by simp) hn List.nodup_range (fun k hk _=>⟨hall k hk,by simpa using hk⟩) t (by
    unfold a9b
    rw[List.any_eq_false]
    intro k hk
    simp only[List.mem_range] at hk
    split
    ·split
     ·simp[Nat.testBit_two_pow_sub_one,hk]
     ·simp
    ·simp)
  unfold Inv at hI ⊢
  rw[d1n] at hI ⊢
  rw[←funext fun t=>(heq t).1,←funext fun t=>(heq t).2]
  exact hI
 | succ fuel ih =>
  intro π G a w listed hf hn hlt hsz hl hclosed hI
  by_cases hall:∀ k,k<m→k∈π
  ·suffices hI':Inv c G (stL ops.toList es s0 (List.range m)) a w from d2s hE hback hchain hQ (fuel+1) m kn G (stL ops.toList es s0 (List.range m)) a w listed (Nat.le_refl _) (by have:=b6q m π hn hlt;omega) hsz (fun k hk=>by rw[hl k hk];exact⟨hlt k,hall k⟩) hI' (hend G a w hI')
   have heq:∀ t,(stL ops.toList es s0 π).sl t=(stL ops.toList es s0 (List.range m)).sl t∧(stL ops.toList es s0 π).look t=(stL ops.toList es s0 (List.range m)).look t:=fun t =>
    d8a (bits:=2 ^ m - 1) hdst hlt (by simp) hn List.nodup_range (fun k hk _=>⟨hall k hk,by simpa using hk⟩) t (by
     unfold a9b
     rw[List.any_eq_false]
     intro k hk
     simp only[List.mem_range] at hk
     split
     ·split
      ·simp[Nat.testBit_two_pow_sub_one,hk]
      ·simp
     ·simp)
   unfold Inv at hI ⊢
   rw[d1n] at hI ⊢
   rw[←funext fun t=>(heq t).1,←funext fun t=>(heq t).2]
   exact hI
  ·
   have hex:∃ k,k<m∧k∉π∧∀ j,j<k→j∈π:=by
    have:∀ n,(∃ k,k<n∧k<m∧k∉π)→∃ k,k<m∧k∉π∧∀ j,j<k→j∈π:=by
     intro n
     induction n with
     | zero=>rintro⟨k,hk,_⟩;omega
     | succ n ihn =>
      rintro⟨k,hk,hkm,hkp⟩
      by_cases hs:∃ k,k<n∧k<m∧k∉π
      ·exact ihn hs
      ·refine⟨k,hkm,hkp,fun j hj=>?_⟩
       cases hb:decide (j∈π) with
       | true=>exact of_decide_eq_true hb
       | false=>exact absurd ⟨j,by omega,by omega,of_decide_eq_false hb⟩ hs
    refine this m ?_
    have h1:∃ k,¬ (k<m→k∈π):=Classical.not_forall.1 hall
    obtain⟨k,hk⟩:=h1
    have h2:=Classical.not_imp.1 hk
    exact⟨k,h2.1,h2.1,h2.2⟩
   obtain⟨k0,hk0m,hk0,hmin⟩:=hex
   have hk0o:ops[k0]?=some (ops[k0]'(by omega)):=Array.getElem?_eq_getElem (by omega)
   constructor
   ·intro hnil
    have:k0∈Region.ready .any ops listed:=(a4h hsz).2 ⟨_,hk0o,by
     cases hb:listed.getD k0 false with
     | false=>rfl
     | true=>exact absurd ((hl k0 (by omega)).1 hb) hk0,fun e he hb=>by
     have hlt':=a1e hback k0 ops[k0] (by simp) e he hb
     exact (hl e.on (by omega)).2 (hmin e.on hlt')⟩
    rw[hnil] at this
    cases this
   ·intro i hi
    obtain⟨o,hio,h1,h2⟩:=(a4h hsz).1 hi
    have hilt:=(Array.getElem?_eq_some_iff.1 hio).1
    have hio':ops.toList[i]?=some o:=by simpa using hio
    have hip:i∉π:=fun hh=>by
     have:=(hl i hilt).2 hh
     rw[h1] at this
     cases this
    have hdeps:∀ e∈o.after.toList,Region.binds .any e=true→e.on∈π:=fun e he hb=>by
     have hlt':=a1e hback i o hio' e he hb
     exact (hl e.on (by omega)).1 (h2 e he hb)
    have hanc:=c1o (l:=ops.toList) (D:=fun k=>k∈π) (fun k hk o' ho' e he hb=>hclosed k hk o' ho' e he hb) i o hio' hdeps
    have him:i<m:=by
     rcases Nat.lt_or_ge i m with h|h
     ·exact h
     ·exact absurd (hanc k0 (hchain i o h hio' k0 (by omega))) hk0
    have hanclt:=c1o (l:=ops.toList) (D:=fun k=>k<i) (fun k hk o' ho' e he hb=>by
     have:=a1e hback k o' ho' e he hb;omega) i o hio' (fun e he hb=>a1e hback i o hio' e he hb)
    have hseen:=fun t hh=>d8a (l:=ops.toList) (es:=es) (s0:=s0) (m:=m) (bits:=(a0u ops.toList []).getD i 0) (π:=π) (π':=List.range i) hdst hlt (by intro k hk;simp at hk;omega) hn List.nodup_range
     (fun k hk hb=>⟨hanc k hb,by simpa using hanclt k hb⟩) t hh
    obtain⟨hg,hrun,hskip⟩:=hent i o him hio'
    have hev:evR ops.toList m ((a0u ops.toList []).getD i 0) (stL ops.toList es s0 (List.range i))=evR ops.toList m ((a0u ops.toList []).getD i 0) (stL ops.toList es s0 π):=by
     funext x
     cases x with
     | tmp t =>
      simp only[evR]
      split
      ·rfl
      ·rename_i hh
       exact ((hseen t hh).1).symm
     | _=>rfl
    have hlk:lkR ops.toList m ((a0u ops.toList []).getD i 0) (stL ops.toList es s0 (List.range i))=lkR ops.toList m ((a0u ops.toList []).getD i 0) (stL ops.toList es s0 π):=by
     funext t
     simp only[lkR]
     split
     ·rfl
     ·rename_i hh
      exact ((hseen t hh).2).symm
    have hg':a4s ops.toList ((a0u ops.toList []).getD i 0) (stL ops.toList es s0 π) o (es.getD i ⟨false, .any,none⟩).ran:=by
     unfold a4s at hg ⊢
     split
     ·rename_i hn'
      simpa [hn'] using hg
     ·rename_i g want hn'
      simp only[hn'] at hg
      obtain⟨t,b,q1,q2,q3,q4⟩:=hg
      refine⟨t,b,q1,q2,?_,q4⟩
      have hgm:g<m:=Nat.lt_trans (hanclt g q2) him
      have hh:a9b ops.toList m ((a0u ops.toList []).getD i 0) t=false:=by
       unfold a9b
       rw[List.any_eq_false]
       intro k hk
       simp only[List.mem_range] at hk
       split
       ·rename_i d hd
        split
        ·rename_i hdt
         have hdt:=Nat.eq_of_beq_eq_true hdt
         subst hdt
         have:=hdst k g d hk hgm hd q1
         subst this
         rw[q2];simp
        ·simp
       ·simp
      exact ((hseen t hh).1).trans q3
    have hw:=c9o (ops:=ops) rfl hI hg'
    have hnext:∀ (G':Gh) (a':Act) (w':World),Inv c G' (stL ops.toList es s0 (π++[i])) a' w'→wpAny c.P .any ops Q' fuel (listed.setIfInBounds i true) a' w':=by
     intro G' a' w' hI'
     refine ih (π++[i]) G' a' w' _ (by simp;omega) ?_ ?_ (by rw[Array.size_setIfInBounds];exact hsz) ?_ ?_ hI'
     ·rw[List.nodup_append]
      exact⟨hn,by simp,fun x hx y hy=>by simp at hy;subst hy;exact fun e=>hip (e ▸ hx)⟩
     ·intro k hk
      rcases List.mem_append.1 hk with hk|hk
      ·exact hlt k hk
      ·simp at hk;omega
     ·intro k hk
      rw[b5b (by omega),hl k hk]
      simp
     ·intro k hk o' ho' e he hb
      rcases List.mem_append.1 hk with hk|hk
      ·exact List.mem_append_left _ (hclosed k hk o' ho' e he hb)
      ·simp at hk
       subst hk
       rw[hio'] at ho'
       simp only[Option.some.injEq] at ho'
       subst ho'
       exact List.mem_append_left _ (hdeps e he hb)
    have hds:a1f ops.toList i=o.dst:=by simp[a1f,hio']
    unfold wpOp
    simp only[hio]
    cases hran:(es.getD i ⟨false, .any,none⟩).ran with
    | true =>
     rw[hran] at hw
     rw[if_pos hw]
     obtain⟨vc,hq,hvc⟩:=hrun hran
     rw[hev,hlk] at hq
     refine .inl (Oper.wp_mono ?_ (d0o hE hI (lk':=lkR ops.toList m ((a0u ops.toList []).getD i 0) (stL ops.toList es s0 π)) ?_ ?_ hq hvc))
     ·intro a' w' hd
      obtain⟨G',hl'⟩:=d6c hI (hd4 i o him hio') (fun t ob hdt hob=>by
       rw[hob] at hq
       have hcr:=d3a hq
       have h0:=hnone i o t him hio' hcr hdt
       have hoth:=(a5w ops.toList es t π s0 (fun k hk hkd=>by
        have:=hdst k i t (hlt k hk) him hkd (by rw[hds];exact hdt)
        subst this
        exact hip hk)).2
       rw[hoth,h0]) hd
      refine hnext G' a' w' ?_
      rw[b6w,hds]
      exact hl'
     ·intro id ob hid
      unfold lkR at hid
      split at hid
      ·cases hid
      ·exact hid
     ·intro x
      cases x with
      | tmp t =>
       simp only[evR]
       split
       ·trivial
       ·exact a0p hI (.tmp t)
      | const v=>exact a0p hI (.const v)
      | global g=>exact a0p hI (.global g)
      | func f=>exact a0p hI (.func f)
    | false =>
     rw[hran] at hw
     rw[hw]
     obtain⟨hv,hob⟩:=hskip hran
     refine hnext G _ w ?_
     rw[b6w,hds,hv,hob,d3y]
     exact Inv.put (v := .undf) hI rfl
theorem d8r{l:List Oper}{K:Prop}(h:Inv c G s a w):b6j l s K→K:=by
 induction l with
 | nil=>exact fun h=>h
 | cons o r ih =>
  intro hk
  simp only[b6j] at hk
  split at hk
  ·exact ih (c6o (h.slots _) hk)
  ·exact ih hk
theorem d9q(hE:a0r c.P c.E)(hmix:c.P.follows .mixedOrders=true){id:Nat}{ops:Array Oper}{Q:a0c→Prop}{Q':Exit→Act→World→Prop}(hQ:∀ G s a w,Inv c G s a w→Q s→Q' .normal a w)
  (h:Inv c G s a w) (hd:d7j c.E ops Q s):(Code.region id ops true).wp c.P Q' a w:=by
 unfold d7j at hd
 simp only at hd
 split at hd
 case h_2=>exact hd.elim
 case h_1 hb =>
  simp only[Bool.and_eq_true] at hb
  obtain⟨hb0,hb1,hback⟩:=hb
  obtain⟨r,ha1,ha2,_⟩:=b8s ops.toList []
  have halen:(a0u ops.toList []).length=ops.size:=by rw[ha1];simpa using ha2
  obtain⟨hm1,_,hm3⟩:=c1c (a0u ops.toList []) 0 0 (Nat.le_refl _)
  simp only[Nat.zero_add] at hm1 hm3
  rw[halen] at hm1
  generalize hmd:b0j (a0u ops.toList []) 0 0=m at *
  have hchain:∀ j o,m≤j→ops.toList[j]?=some o→∀ k,k<j→Nat.testBit ((a0u ops.toList []).getD j 0) k=true:=by
   intro j o hmj ho k hk
   have hj:j<ops.size:=by have:=(List.getElem?_eq_some_iff.1 ho).1;simpa using this
   have hg:(a0u ops.toList [])[j]?=some ((a0u ops.toList [])[j]'(by omega)):=List.getElem?_eq_getElem (by omega)
   have:=hm3 j _ hg hmj
   rw[List.getD_eq_getElem?_getD,hg,Option.getD_some,show (a0u ops.toList [])[j]'(by omega)=2 ^ j - 1 by omega,Nat.testBit_two_pow_sub_one]
   simpa using hk
  obtain⟨_,hds⟩:=c7l hb1
  have hdst:∀ j k t,j<m→k<m→a1f ops.toList j=some t→a1f ops.toList k=some t→j=k:=by
   have get:∀ j t,j<m→a1f ops.toList j=some t→((ops.toList.take m).map (·.dst))[j]?=some (some t):=by
    intro j t hj hjt
    unfold a1f at hjt
    simp only[Option.bind_eq_some_iff] at hjt
    obtain⟨o,ho,hot⟩:=hjt
    rw[List.getElem?_map,List.getElem?_take,if_pos hj,ho]
    simp[hot]
   intro j k t hj hk hjt hkt
   exact hds j k t (get j t hj hjt) (get k t hk hkt)
  obtain⟨es,kn',s',htr,hq⟩:=b4q hd
  have hlen:(ops.toList.take m).length=m:=by simp;omega
  have hpre:∀ j o,(ops.toList.take m)[j]?=some o→ops.toList[0+j]?=some o:=fun j o ho=>by
   rw[List.getElem?_take] at ho
   split at ho
   ·simpa using ho
   ·cases ho
  obtain⟨ht1,ht2⟩:=e2b (ops.toList.take m) 0 es [] _ s' htr hpre rfl rfl
  simp only[List.nil_append,Nat.zero_add,hlen] at ht1 ht2
  subst ht2
  have hI0:Inv c G ((ops.toList.take m).foldl a0c.fresh s) a w.drew:=c3b _ (a0l.drew h)
  refine wp_region_any hmix ?_
  refine e4y hE (m:=m) (es:=es) (s0:=(ops.toList.take m).foldl a0c.fresh s) hback hm1 hchain hdst ?_ (fun i o him ho=>List.all_eq_true.1 hb0 o (List.mem_of_getElem? (by rw[List.getElem?_take,if_pos him];exact ho))) ?_ hQ (kn:=kn') (fun G a w hI=>d8r hI hq) ops.size [] G a _ _ (by simp) (by simp) (by simp) (by simp) ?_ (by simp) hI0
  ·intro i o him ho
   exact ht1 i o (by rw[List.getElem?_take,if_pos him];exact ho)
  ·intro i o t him ho hc hdt
   exact (c0f (ops.toList.take m) s t).2 o (List.mem_of_getElem? (by rw[List.getElem?_take,if_pos him];exact ho)) hc hdt
  ·intro k hk
   simp[hk]
end
end Go.Proofs.YtmdefiphdgcijaaDoor

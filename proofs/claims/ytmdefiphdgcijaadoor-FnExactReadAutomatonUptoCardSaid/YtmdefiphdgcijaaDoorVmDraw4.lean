/- Operations whose order is open in pieces: one piece behind the other. -/
import Derived.Test.YtmdefiphdgcijaaDoorVmMix
set_option linter.unusedVariables false
set_option linter.unusedSimpArgs false
namespace Go.Proofs.YtmdefiphdgcijaaDoor
theorem b8u{anc:List Nat}{p:Nat}(h:d5z anc p=true){j k:Nat}(hj:p≤j)(hl:j<anc.length)(hk:k<p):Nat.testBit (anc.getD j 0) k=true:=by
 unfold d5z at h
 rw[List.all_eq_true] at h
 have hm:anc[j]∈anc.drop p:=by
  rw[List.mem_iff_getElem?]
  refine⟨j - p,?_⟩
  rw[List.getElem?_drop,show p+(j - p)=j by omega,List.getElem?_eq_getElem hl]
 have h1:=Nat.eq_of_beq_eq_true (h _ hm)
 rw[List.getD_eq_getElem?_getD,List.getElem?_eq_getElem hl,Option.getD_some]
 have h2:Nat.testBit (anc[j] % 2 ^ p) k=true:=by rw[h1,Nat.testBit_two_pow_sub_one];simpa using hk
 rw[Nat.testBit_mod_two_pow] at h2
 simp only[Bool.and_eq_true] at h2
 exact h2.2
theorem e1x{l:List Oper}{es:List Ent}{lo m bits:Nat}{s0:a0c}{π π':List Nat}(hdst:∀ j k t,lo≤j→j<m→lo≤k→k<m→a1f l j=some t→a1f l k=some t→j=k)
  (hπ:∀ k∈π,lo≤k∧k<m) (hπ':∀ k∈π',lo≤k∧k<m) (hn:π.Nodup) (hn':π'.Nodup) (ha:∀ k,lo≤k→k<m→Nat.testBit bits k=true→k∈π∧k∈π') (t:Nat) (hh:a9b l m bits t=false) :
  (stL l es s0 π).sl t=(stL l es s0 π').sl t∧(stL l es s0 π).look t=(stL l es s0 π').look t:=by
 by_cases hex:∃ k,lo≤k∧k<m∧a1f l k=some t
 ·obtain⟨k,hlk,hk,hd⟩:=hex
  have hb:Nat.testBit bits k=true:=by
   have:=hh
   unfold a9b at this
   rw[List.any_eq_false] at this
   have:=this k (by simpa using hk)
   simp only[hd] at this
   simp only[Nat.beq_refl] at this
   simpa using this
  obtain⟨h1,h2⟩:=ha k hlk hk hb
  obtain⟨e1,e2⟩:=b7t l es t k hd π s0 h1 hn (fun j hj hne hjd=>hne (hdst j k t (hπ j hj).1 (hπ j hj).2 hlk hk hjd hd))
  obtain⟨e3,e4⟩:=b7t l es t k hd π' s0 h2 hn' (fun j hj hne hjd=>hne (hdst j k t (hπ' j hj).1 (hπ' j hj).2 hlk hk hjd hd))
  exact⟨e1.trans e3.symm,e2.trans e4.symm⟩
 ·have hno:∀ k,lo≤k→k<m→a1f l k≠some t:=fun k hl hk hd=>hex ⟨k,hl,hk,hd⟩
  obtain⟨e1,e2⟩:=a5w l es t π s0 (fun k hk=>hno k (hπ k hk).1 (hπ k hk).2)
  obtain⟨e3,e4⟩:=a5w l es t π' s0 (fun k hk=>hno k (hπ' k hk).1 (hπ' k hk).2)
  exact⟨e1.trans e3.symm,e2.trans e4.symm⟩
def seg(lo i:Nat):List Nat:=List.range' lo (i - lo)
theorem b9o{lo i k:Nat}:k∈seg lo i↔lo≤k∧k<i:=by
 unfold seg
 rw[List.mem_range'_1]
 omega
theorem d0u(lo i:Nat):(seg lo i).Nodup:=List.nodup_range'
theorem e8m{lo i:Nat}(h:lo≤i):seg lo (i+1)=seg lo i++[i]:=by
 unfold seg
 rw[show i+1 - lo=(i - lo)+1 by omega,List.range'_1_concat,show lo+(i - lo)=i by omega]
theorem d9m{E:Env}{l:List Oper}{m lo:Nat}{anc:List Nat}{s0:a0c}:∀ (r:List Oper) (i:Nat) (es es0:List Ent) (s s':a0c),d1f E l m anc i r es s s'→(∀ j o,r[j]?=some o→l[i+j]?=some o)→es0.length=i→lo≤i →
  s=stL l (es0++es) s0 (seg lo i) →
  (∀ j o,r[j]?=some o→d4q E l m (anc.getD (i+j) 0) (stL l (es0++es) s0 (seg lo (i+j))) o ((es0++es).getD (i+j) ⟨false, .any,none⟩))∧s'=stL l (es0++es) s0 (seg lo (i+r.length))
 | [],i,[],es0,s,s',h,_,_,_,hs=>by
  have h:s=s':=h
  subst h
  exact⟨by simp,by simpa using hs⟩
 | o::r,i,e::es,es0,s,s',h,hl,h0,hlo,hs=>by
  obtain⟨h1,h2⟩:=h
  have ho:l[i]?=some o:=hl 0 o rfl
  have hget:(es0++e::es).getD i ⟨false, .any,none⟩=e:=by simp[List.getD_eq_getElem?_getD,←h0]
  have hst:s.layN o.dst e.v e.ob=stL l ((es0++[e])++es) s0 (seg lo (i+1)):=by
   rw[List.append_assoc,e8m hlo,b6w,List.singleton_append,hget,←hs]
   simp[a1f,ho]
  have ih:=d9m r (i+1) es (es0++[e]) _ s' h2 (fun j p hj=>by
   have:=hl (j+1) p (by simpa using hj)
   rwa [show i+(j+1)=i+1+j by omega] at this) (by simp[h0]) (by omega) hst
  rw[List.append_assoc,List.singleton_append] at ih
  refine⟨fun j p hj=>?_,by rw[ih.2];congr 2;simp;omega⟩
  cases j with
  | zero =>
   simp at hj
   subst hj
   rw[Nat.add_zero,hget,←hs]
   exact h1
  | succ j =>
   have:=ih.1 j p (by simpa using hj)
   rwa [show i+1+j=i+(j+1) by omega] at this
 | [],_,_::_,_,_,_,h,_,_,_,_=>h.elim
 | _::_,_,[],_,_,_,h,_,_,_,_=>h.elim
theorem d9b:∀ (l π:List Nat),l.Nodup→(∀ k∈l,k∈π)→l.length≤π.length
 | [],_,_,_=>by simp
 | x::l,π,hn,h=>by
  have hn':=List.nodup_cons.1 hn
  have hx:=h x (by simp)
  have h1:=d9b l (π.erase x) hn'.2 (fun k hk=>by
   have hne:k≠x:=fun e=>by subst e;exact hn'.1 hk
   exact (List.mem_erase_of_ne hne).2 (h k (by simp[hk])))
  have h3:=List.length_erase_of_mem hx
  have:0<π.length:=List.length_pos_of_mem hx
  simp only[List.length_cons]
  omega
theorem d9a{lo m:Nat}(π:List Nat)(hn:π.Nodup)(h:∀ k∈π,lo≤k∧k<m):π.length≤m - lo:=by
 have h1:(List.range lo++π).Nodup:=by
  rw[List.nodup_append]
  refine⟨List.nodup_range,hn,fun x hx y hy e=>?_⟩
  simp at hx
  have:=(h y hy).1
  omega
 have h2:=b6q (max lo m) (List.range lo++π) h1 (fun k hk=>by
  rcases List.mem_append.1 hk with hk|hk
  ·simp at hk;omega
  ·have:=(h k hk).2;omega)
 rw[List.length_append,List.length_range] at h2
 cases π with
 | nil=>simp
 | cons k r =>
  have:=h k (by simp)
  omega
section
variable {c:Ctx} {G:Gh} {s:a0c} {a:Act} {w w':World}
theorem e9y(hE:a0r c.P c.E){ops:Array Oper}{j:Nat}(hback:a8h ops.toList=true)(hj:j<ops.size)(hcut:∀ i,j<i→i<ops.size→Nat.testBit ((a0u ops.toList []).getD i 0) j=true)
  {P:a0c→Prop} {Q':Exit→Act→World→Prop} {fuel:Nat} {kn:List (Nat×Bool)} {listed:Array Bool} (hsz:listed.size=ops.size) (hl:∀ k,k<ops.size→(listed.getD k false=true↔k<j))
  (hI:Inv c G s a w) (hr:a3q c.E ops [ops[j]] kn P s)
  (hnext:∀ G s a w (listed:Array Bool),listed.size=ops.size→(∀ k,k<ops.size→(listed.getD k false=true↔k<j+1))→Inv c G s a w→P s→wpAny c.P .any ops Q' fuel listed a w):wpAny c.P .any ops Q' (fuel+1) listed a w:=by
 have ho:ops[j]?=some ops[j]:=Array.getElem?_eq_getElem hj
 constructor
 ·intro hnil
  have:j∈Region.ready .any ops listed:=(a4h hsz).2 ⟨_,ho,by
   cases hb:listed.getD j false with
   | false=>rfl
   | true=>have:=(hl j hj).1 hb;omega,fun e he hb=>by
   have:=a1e hback j ops[j] (by simp) e he hb
   exact (hl e.on (by omega)).2 this⟩
  rw[hnil] at this
  cases this
 ·intro i hi
  obtain⟨o,hio,h1,h2⟩:=(a4h hsz).1 hi
  have hilt:=(Array.getElem?_eq_some_iff.1 hio).1
  have hge:j≤i:=by
   rcases Nat.lt_or_ge i j with h|h
   ·have:=(hl i hilt).2 h
    rw[h1] at this
    cases this
   ·exact h
  have hij:i=j:=by
   rcases Nat.lt_or_ge j i with h|h
   ·have hin:=c1o (l:=ops.toList) (D:=fun k=>k<j) (fun k hk o' ho' e he hb=>by
     have:=a1e hback k o' ho' e he hb;omega) i o (by simpa using hio) (fun e he hb=>by
      have hlt:=a1e hback i o (by simpa using hio) e he hb
      exact (hl e.on (by omega)).1 (h2 e he hb)) j (hcut i h hilt)
    omega
   ·omega
  subst hij
  have hset:∀ k,k<ops.size→((listed.setIfInBounds i true).getD k false=true↔k<i+1):=fun k hk=>by
   rw[b5b (by omega),hl k hk];omega
  unfold wpOp
  simp only[ho]
  have hstep:=c2r hE hI hr
  split at hstep
  ·rename_i hw
   rw[if_pos hw]
   exact .inl (Oper.wp_mono (fun a' w' ⟨G',s',kn',h1,h2⟩=>hnext G' s' a' w' _ (by rw[Array.size_setIfInBounds];exact hsz) hset h1 h2) (hstep Q'))
  ·rename_i hw
   rw[if_neg hw]
   obtain⟨G',s',kn',h1,h2⟩:=hstep
   exact hnext G' s' _ w _ (by rw[Array.size_setIfInBounds];exact hsz) hset h1 h2
theorem e9g(hE:a0r c.P c.E){ops:Array Oper}{lo m:Nat}{es:List Ent}{s0:a0c}(hback:a8h ops.toList=true)(hm:m≤ops.size)
  (hchain:∀ j o,m≤j→ops.toList[j]?=some o→∀ k,k<m→Nat.testBit ((a0u ops.toList []).getD j 0) k=true)
  (hlow:∀ j o,lo≤j→ops.toList[j]?=some o→∀ k,k<lo→Nat.testBit ((a0u ops.toList []).getD j 0) k=true)
  (hdst:∀ j k t,lo≤j→j<m→k<m→a1f ops.toList j=some t→a1f ops.toList k=some t→j=k)
  (hent:∀ i o,lo≤i→i<m→ops.toList[i]?=some o→d4q c.E ops.toList m ((a0u ops.toList []).getD i 0) (stL ops.toList es s0 (seg lo i)) o (es.getD i ⟨false, .any,none⟩))
  (hd4:∀ i o,lo≤i→i<m→ops.toList[i]?=some o→b3a o.dst=true) (hnone:∀ i o t,lo≤i→i<m→ops.toList[i]?=some o→b6d o.op=true→o.dst=some t→s0.look t=none)
  {Q':Exit→Act→World→Prop}
  (hend:∀ (fuel:Nat) (G:Gh) (a:Act) (w:World) (listed:Array Bool),ops.size=m+fuel→listed.size=ops.size→(∀ k,k<ops.size→(listed.getD k false=true↔k<m))→Inv c G (stL ops.toList es s0 (seg lo m)) a w→wpAny c.P .any ops Q' fuel listed a w) :
  ∀ (fuel:Nat) (π:List Nat) (G:Gh) (a:Act) (w:World) (listed:Array Bool),ops.size=lo+π.length+fuel→π.Nodup→(∀ k∈π,lo≤k∧k<m)→listed.size=ops.size→(∀ k,k<ops.size→(listed.getD k false=true↔k<lo∨k∈π)) →
   (∀ k∈π,∀ o,ops.toList[k]?=some o→∀ e∈o.after.toList,Region.binds .any e=true→e.on<lo∨e.on∈π)→lo≤m→Inv c G (stL ops.toList es s0 π) a w→wpAny c.P .any ops Q' fuel listed a w:=by
 have hdst':∀ j k t,lo≤j→j<m→lo≤k→k<m→a1f ops.toList j=some t→a1f ops.toList k=some t→j=k:=fun j k t h1 h2 _ h4=>hdst j k t h1 h2 h4
 have fin:∀ (fuel:Nat) (π:List Nat) (G:Gh) (a:Act) (w:World) (listed:Array Bool),ops.size=lo+π.length+fuel→π.Nodup→(∀ k∈π,lo≤k∧k<m)→listed.size=ops.size→(∀ k,k<ops.size→(listed.getD k false=true↔k<lo∨k∈π)) →
   lo≤m→(∀ k,lo≤k→k<m→k∈π)→Inv c G (stL ops.toList es s0 π) a w→wpAny c.P .any ops Q' fuel listed a w:=by
  intro fuel π G a w listed hf hn hlt hsz hl hlm hall hI
  have hlen:=d9a π hn hlt
  have hge:m - lo≤π.length:=by
   have h2:(seg lo m).length≤π.length:=d9b (seg lo m) π (d0u lo m) fun k hk=>hall k (b9o.1 hk).1 (b9o.1 hk).2
   simpa [seg] using h2
  have heq:∀ t,(stL ops.toList es s0 π).sl t=(stL ops.toList es s0 (seg lo m)).sl t∧(stL ops.toList es s0 π).look t=(stL ops.toList es s0 (seg lo m)).look t:=fun t =>
   e1x (bits:=2 ^ m - 1) hdst' hlt (fun k hk=>b9o.1 hk) hn (d0u lo m) (fun k hlk hk _=>⟨hall k hlk hk,b9o.2 ⟨hlk,hk⟩⟩) t (by
    unfold a9b
    rw[List.any_eq_false]
    intro k hk
    simp only[List.mem_range] at hk
    split
    ·split
     ·simp[Nat.testBit_two_pow_sub_one,hk]
     ·simp
    ·simp)
  refine hend fuel G a w listed (by omega) hsz (fun k hk=>?_) ?_
  ·rw[hl k hk]
   constructor
   ·rintro (h|h)
    ·omega
    ·exact (hlt k h).2
   ·intro h
    rcases Nat.lt_or_ge k lo with h'|h'
    ·exact .inl h'
    ·exact .inr (hall k h' h)
  ·unfold Inv at hI ⊢
   rw[d1n] at hI ⊢
   rw[←funext fun t=>(heq t).1,←funext fun t=>(heq t).2]
   exact hI
 intro fuel
 induction fuel with
 | zero =>
  intro π G a w listed hf hn hlt hsz hl hclosed hlm hI
  refine fin 0 π G a w listed hf hn hlt hsz hl hlm (fun k hlk hk=>?_) hI
  cases hb:decide (k∈π) with
  | true=>exact of_decide_eq_true hb
  | false =>
   have:=d9a (lo:=lo) (m:=m) (k::π) (List.nodup_cons.2 ⟨of_decide_eq_false hb,hn⟩) (fun j hj=>by
    rcases List.mem_cons.1 hj with rfl|hj
    ·exact⟨hlk,hk⟩
    ·exact hlt j hj)
   simp at this
   omega
 | succ fuel ih =>
  intro π G a w listed hf hn hlt hsz hl hclosed hlm hI
  by_cases hall:∀ k,lo≤k→k<m→k∈π
  ·exact fin (fuel+1) π G a w listed hf hn hlt hsz hl hlm hall hI
  ·
   have hex:∃ k,lo≤k∧k<m∧k∉π∧∀ j,lo≤j→j<k→j∈π:=by
    have:∀ n,(∃ k,k<n∧lo≤k∧k<m∧k∉π)→∃ k,lo≤k∧k<m∧k∉π∧∀ j,lo≤j→j<k→j∈π:=by
     intro n
     induction n with
     | zero=>rintro⟨k,hk,_⟩;omega
     | succ n ihn =>
      rintro⟨k,hk,hkl,hkm,hkp⟩
      by_cases hs:∃ k,k<n∧lo≤k∧k<m∧k∉π
      ·exact ihn hs
      ·refine⟨k,hkl,hkm,hkp,fun j hjl hj=>?_⟩
       cases hb:decide (j∈π) with
       | true=>exact of_decide_eq_true hb
       | false=>exact absurd ⟨j,by omega,hjl,by omega,of_decide_eq_false hb⟩ hs
    refine this m ?_
    obtain⟨k,hk⟩:=Classical.not_forall.1 hall
    have h2:=Classical.not_imp.1 hk
    have h3:=Classical.not_imp.1 h2.2
    exact⟨k,h3.1,h2.1,h3.1,h3.2⟩
   obtain⟨k0,hk0l,hk0m,hk0,hmin⟩:=hex
   have hk0o:ops[k0]?=some (ops[k0]'(by omega)):=Array.getElem?_eq_getElem (by omega)
   constructor
   ·intro hnil
    have:k0∈Region.ready .any ops listed:=(a4h hsz).2 ⟨_,hk0o,by
     cases hb:listed.getD k0 false with
     | false=>rfl
     | true =>
      rcases (hl k0 (by omega)).1 hb with h|h
      ·omega
      ·exact absurd h hk0,fun e he hb=>by
     have hlt':=a1e hback k0 ops[k0] (by simp) e he hb
     refine (hl e.on (by omega)).2 ?_
     rcases Nat.lt_or_ge e.on lo with h|h
     ·exact .inl h
     ·exact .inr (hmin e.on h hlt')⟩
    rw[hnil] at this
    cases this
   ·intro i hi
    obtain⟨o,hio,h1,h2⟩:=(a4h hsz).1 hi
    have hilt:=(Array.getElem?_eq_some_iff.1 hio).1
    have hio':ops.toList[i]?=some o:=by simpa using hio
    have hnl:¬ (i<lo∨i∈π):=fun hh=>by
     have:=(hl i hilt).2 hh
     rw[h1] at this
     cases this
    have hip:i∉π:=fun h=>hnl (.inr h)
    have hil:lo≤i:=by
     rcases Nat.lt_or_ge i lo with h|h
     ·exact absurd (.inl h) hnl
     ·exact h
    have hdeps:∀ e∈o.after.toList,Region.binds .any e=true→e.on<lo∨e.on∈π:=fun e he hb=>by
     have hlt':=a1e hback i o hio' e he hb
     exact (hl e.on (by omega)).1 (h2 e he hb)
    have hanc:=c1o (l:=ops.toList) (D:=fun k=>k<lo∨k∈π) (fun k hk o' ho' e he hb=>by
     rcases hk with hk|hk
     ·have:=a1e hback k o' ho' e he hb
      exact .inl (by omega)
     ·exact hclosed k hk o' ho' e he hb) i o hio' hdeps
    have him:i<m:=by
     rcases Nat.lt_or_ge i m with h|h
     ·exact h
     ·rcases hanc k0 (hchain i o h hio' k0 hk0m) with h|h
      ·omega
      ·exact absurd h hk0
    have hanclt:=c1o (l:=ops.toList) (D:=fun k=>k<i) (fun k hk o' ho' e he hb=>by
     have:=a1e hback k o' ho' e he hb;omega) i o hio' (fun e he hb=>a1e hback i o hio' e he hb)
    have hseen:=fun t hh=>e1x (l:=ops.toList) (es:=es) (s0:=s0) (lo:=lo) (m:=m) (bits:=(a0u ops.toList []).getD i 0) (π:=π) (π':=seg lo i) hdst' hlt (fun k hk=>by have:=b9o.1 hk;omega) hn (d0u lo i)
     (fun k hlk hk hb=>⟨by
      rcases hanc k hb with h|h
      ·omega
      ·exact h,b9o.2 ⟨hlk,hanclt k hb⟩⟩) t hh
    obtain⟨hg,hrun,hskip⟩:=hent i o hil him hio'
    have hev:evR ops.toList m ((a0u ops.toList []).getD i 0) (stL ops.toList es s0 (seg lo i))=evR ops.toList m ((a0u ops.toList []).getD i 0) (stL ops.toList es s0 π):=by
     funext x
     cases x with
     | tmp t =>
      simp only[evR]
      split
      ·rfl
      ·rename_i hh
       exact ((hseen t hh).1).symm
     | _=>rfl
    have hlk:lkR ops.toList m ((a0u ops.toList []).getD i 0) (stL ops.toList es s0 (seg lo i))=lkR ops.toList m ((a0u ops.toList []).getD i 0) (stL ops.toList es s0 π):=by
     funext t
     simp only[lkR]
     split
     ·rfl
     ·rename_i hh
      exact ((hseen t hh).2).symm
    have hg':a4s ops.toList ((a0u ops.toList []).getD i 0) (stL ops.toList es s0 π) o (es.getD i ⟨false, .any,none⟩).ran:=by
     unfold a4s at hg ⊢
     split
     ·rename_i hn'
      simpa [hn'] using hg
     ·rename_i g want hn'
      simp only[hn'] at hg
      obtain⟨t,b,q1,q2,q3,q4⟩:=hg
      refine⟨t,b,q1,q2,?_,q4⟩
      have hgm:g<m:=Nat.lt_trans (hanclt g q2) him
      have hh:a9b ops.toList m ((a0u ops.toList []).getD i 0) t=false:=by
       unfold a9b
       rw[List.any_eq_false]
       intro k hk
       simp only[List.mem_range] at hk
       split
       ·rename_i d hd
        split
        ·rename_i hdt
         have hdt:=Nat.eq_of_beq_eq_true hdt
         subst hdt
         rcases Nat.lt_or_ge k lo with hkl|hkl
         ·rw[hlow i o hil hio' k hkl];simp
         ·have:=hdst k g d hkl hk hgm hd q1
          subst this
          rw[q2];simp
        ·simp
       ·simp
      exact ((hseen t hh).1).trans q3
    have hw:=c9o (ops:=ops) rfl hI hg'
    have hnext:∀ (G':Gh) (a':Act) (w':World),Inv c G' (stL ops.toList es s0 (π++[i])) a' w'→wpAny c.P .any ops Q' fuel (listed.setIfInBounds i true) a' w':=by
     intro G' a' w' hI'
     refine ih (π++[i]) G' a' w' _ (by simp;omega) ?_ ?_ (by rw[Array.size_setIfInBounds];exact hsz) ?_ ?_ hlm hI'
     ·rw[List.nodup_append]
      exact⟨hn,by simp,fun x hx y hy=>by simp at hy;subst hy;exact fun e=>hip (e ▸ hx)⟩
     ·intro k hk
      rcases List.mem_append.1 hk with hk|hk
      ·exact hlt k hk
      ·simp at hk;omega
     ·intro k hk
      rw[b5b (by omega),hl k hk]
      simp[or_assoc]
     ·intro k hk o' ho' e he hb
      rcases List.mem_append.1 hk with hk|hk
      ·exact (hclosed k hk o' ho' e he hb).imp id (List.mem_append_left _)
      ·simp at hk
       subst hk
       rw[hio'] at ho'
       simp only[Option.some.injEq] at ho'
       subst ho'
       exact (hdeps e he hb).imp id (List.mem_append_left _)
    have hds:a1f ops.toList i=o.dst:=by simp[a1f,hio']
    unfold wpOp
    simp only[hio]
    cases hran:(es.getD i ⟨false, .any,none⟩).ran with
    | true =>
     rw[hran] at hw
     rw[if_pos hw]
     obtain⟨vc,hq,hvc⟩:=hrun hran
     rw[hev,hlk] at hq
     refine .inl (Oper.wp_mono ?_ (d0o hE hI (lk':=lkR ops.toList m ((a0u ops.toList []).getD i 0) (stL ops.toList es s0 π)) ?_ ?_ hq hvc))
     ·intro a' w' hd
      obtain⟨G',hl'⟩:=d6c hI (hd4 i o hil him hio') (fun t ob hdt hob=>by
       rw[hob] at hq
       have hcr:=d3a hq
       have h0:=hnone i o t hil him hio' hcr hdt
       have hoth:=(a5w ops.toList es t π s0 (fun k hk hkd=>by
        have:=hdst k i t (hlt k hk).1 (hlt k hk).2 him hkd (by rw[hds];exact hdt)
        subst this
        exact hip hk)).2
       rw[hoth,h0]) hd
      refine hnext G' a' w' ?_
      rw[b6w,hds]
      exact hl'
     ·intro id ob hid
      unfold lkR at hid
      split at hid
      ·cases hid
      ·exact hid
     ·intro x
      cases x with
      | tmp t =>
       simp only[evR]
       split
       ·trivial
       ·exact a0p hI (.tmp t)
      | const v=>exact a0p hI (.const v)
      | global g=>exact a0p hI (.global g)
      | func f=>exact a0p hI (.func f)
    | false =>
     rw[hran] at hw
     rw[hw]
     obtain⟨hv,hob⟩:=hskip hran
     refine hnext G _ w ?_
     rw[b6w,hds,hv,hob,d3y]
     exact Inv.put (v := .undf) hI rfl
theorem c7t{α:Type}{l:List α}{lo hi j:Nat}{o:α}(h:((l.take hi).drop lo)[j]?=some o):l[lo+j]?=some o∧lo+j<hi:=by
 rw[List.getElem?_drop,List.getElem?_take] at h
 split at h
 ·rename_i hlt;exact⟨h,hlt⟩
 ·cases h
theorem a7q{α:Type}{l:List α}{lo hi i:Nat}{o:α}(h:l[i]?=some o)(h1:lo≤i)(h2:i<hi):((l.take hi).drop lo)[i - lo]?=some o:=by
 rw[List.getElem?_drop,List.getElem?_take,show lo+(i - lo)=i by omega,if_pos h2,h]
theorem b6f:∀ {l:List (Option Nat)},b7i l=true→∀ (i j t:Nat),l[i]?=some (some t)→l[j]?=some (some t)→i=j
 | [],_,i,j,t,h,_=>by simp at h
 | none::r,h,i,j,t,hi,hj=>by
  cases i with
  | zero=>simp at hi
  | succ i =>
   cases j with
   | zero=>simp at hj
   | succ j=>rw[b6f (l:=r) h i j t (by simpa using hi) (by simpa using hj)]
 | some d::r,h,i,j,t,hi,hj=>by
  simp only[b7i] at h
  split at h
  ·cases h
  ·rename_i hany
   rw[List.any_eq_false] at hany
   have no:∀ k:Nat,r[k]?=some (some d)→False:=fun k hk=>by
    have:=hany _ (List.mem_of_getElem? hk)
    simp at this
   cases i with
   | zero =>
    simp at hi
    subst hi
    cases j with
    | zero=>rfl
    | succ j=>exact (no j (by simpa using hj)).elim
   | succ i =>
    cases j with
    | zero =>
     simp at hj
     subst hj
     exact (no i (by simpa using hi)).elim
    | succ j=>rw[b6f (l:=r) h i j t (by simpa using hi) (by simpa using hj)]
theorem c9h{l:List Oper}{lo hi:Nat}(h:c3z l lo hi=true):∀ j k t,lo≤j→j<hi→k<hi→a1f l j=some t→a1f l k=some t→j=k:=by
 unfold c3z at h
 rw[Bool.and_eq_true,Bool.and_eq_true] at h
 obtain⟨⟨_,h1⟩,h2⟩:=h
 have hd:=b6f h1
 have get:∀ j t,a1f l j=some t→∃ o,l[j]?=some o∧o.dst=some t:=by
  intro j t h
  unfold a1f at h
  simp only[Option.bind_eq_some_iff] at h
  exact h
 intro j k t hj hjh hkh hjt hkt
 obtain⟨o,ho,hot⟩:=get j t hjt
 obtain⟨o',ho',hot'⟩:=get k t hkt
 have g1:=a7q ho hj hjh
 rcases Nat.lt_or_ge k lo with hk|hk
 ·rw[List.all_eq_true] at h2
  have hm:o'∈l.take lo:=List.mem_of_getElem? (by rw[List.getElem?_take,if_pos hk];exact ho')
  have:=h2 o' hm
  rw[hot'] at this
  simp only[Bool.not_eq_true'] at this
  rw[List.any_eq_false] at this
  have:=this o (List.mem_of_getElem? g1)
  rw[hot] at this
  simp at this
 ·have g2:=a7q ho' hk hkh
  have:=hd (j - lo) (k - lo) t (by rw[List.getElem?_map,g1];simp[hot]) (by rw[List.getElem?_map,g2];simp[hot'])
  omega
theorem e4a{l:List Oper}{lo hi:Nat}(h:c3z l lo hi=true){i:Nat}{o:Oper}(h1:lo≤i)(h2:i<hi)(ho:l[i]?=some o):b3a o.dst=true:=by
 unfold c3z at h
 rw[Bool.and_eq_true,Bool.and_eq_true] at h
 exact List.all_eq_true.1 h.1.1 o (List.mem_of_getElem? (a7q ho h1 h2))
theorem c6s{i:Nat}{o:Oper}:∀ {l:List Oper} {lo:Nat},(i,o)∈a8e lo l↔∃ j,i=lo+j∧l[j]?=some o
 | [],lo=>by simp[a8e]
 | x::l,lo=>by
  simp only[a8e,List.mem_cons,Prod.mk.injEq,c6s (l:=l)]
  constructor
  ·rintro (⟨rfl,rfl⟩|⟨j,rfl,h⟩)
   ·exact⟨0,rfl,rfl⟩
   ·exact⟨j+1,by omega,by simpa using h⟩
  ·rintro⟨j,rfl,h⟩
   cases j with
   | zero=>simp at h;exact .inl ⟨rfl,h.symm⟩
   | succ j=>exact .inr ⟨j,by omega,by simpa using h⟩
theorem d0n:∀ (l:List Oper) (lo:Nat),((a8e lo l).map (·.1)).Nodup
 | [],lo=>List.nodup_nil
 | x::l,lo=>by
  simp only[a8e,List.map_cons,List.nodup_cons]
  refine⟨fun h=>?_,d0n l (lo+1)⟩
  obtain⟨⟨i,o⟩,h1,h2⟩:=List.mem_map.1 h
  obtain⟨j,h3,_⟩:=c6s.1 h1
  simp only at h2
  omega
theorem a8s.mono{D D':List Nat}{a b:Act}(h:a8s D a b)(hs:∀ t∈D,t∈D'):a8s D' a b:=⟨h.size,h.da,h.db,fun t ht=>h.at' t fun q=>ht (hs t q)⟩
theorem d6s:∀ (l:List Oper) (lo:Nat),(a8e lo l).length=l.length
 | [],lo=>rfl
 | x::l,lo=>by simp[a8e,d6s l]
theorem d2v{α:Type}(p:α→Bool):∀ l:List α,(l.filter p).length+(l.filter fun x => !p x).length=l.length
 | []=>rfl
 | x::l=>by
  have:=d2v p l
  cases h:p x<;>simp[List.filter_cons,h]<;>omega
theorem e4p(hE:a0r c.P c.E){ops:Array Oper}(hback:a8h ops.toList=true){Q:a0c→Prop}{Q':Exit→Act→World→Prop}(hQ:∀ G s a w,Inv c G s a w→Q s→Q' .normal a w) :
  ∀ (cuts:List Nat) (lo:Nat) (kn:List (Nat×Bool)) (fuel:Nat) (G:Gh) (s:a0c) (a:Act) (w:World) (listed:Array Bool),ops.size=lo+fuel→listed.size=ops.size→(∀ k,k<ops.size→(listed.getD k false=true↔k<lo))→Inv c G s a w →
   b6c c.E ops ops.toList (a0u ops.toList []) cuts lo kn Q s→wpAny c.P .any ops Q' fuel listed a w:=by
 obtain⟨r,ha1,ha2,_⟩:=b8s ops.toList []
 have halen:(a0u ops.toList []).length=ops.size:=by rw[ha1];simpa using ha2
 intro cuts
 induction cuts with
 | nil =>
  intro lo kn fuel G s a w listed hf hsz hl hI hr
  simp only[b6c] at hr
  split at hr
  ·rename_i hb
   have hb:=Nat.eq_of_beq_eq_true hb
   have hlo:lo=ops.size:=by simpa using hb
   have h0:fuel=0:=by omega
   subst h0
   refine⟨?_,hQ _ _ _ _ hI hr⟩
   apply List.eq_nil_iff_forall_not_mem.2
   intro i hi
   obtain⟨o,ho,h1,_⟩:=(a4h hsz).1 hi
   have hlt:=(Array.getElem?_eq_some_iff.1 ho).1
   have:=(hl i hlt).2 (by omega)
   rw[h1] at this
   cases this
  ·exact hr.elim
 | cons hi cuts ih =>
  intro lo kn fuel G s a w listed hf hsz hl hI hr
  simp only[b6c] at hr
  split at hr
  case h_2=>exact hr.elim
  case h_1 hc =>
  simp only[Bool.and_eq_true,Nat.blt_eq,Nat.ble_eq,Array.length_toList] at hc
  obtain⟨hc1,hc0,hc2,hc3⟩:=hc
  split at hr
  ·rename_i hb
   have hb:=Nat.eq_of_beq_eq_true hb
   subst hb
   have hlt:lo<ops.size:=by omega
   obtain⟨fuel,rfl⟩:∃ f,fuel=f+1:=⟨fuel - 1,by omega⟩
   have hone:(ops.toList.take (lo+1)).drop lo=[ops[lo]]:=by
    rw[List.drop_take,show lo+1 - lo=1 by omega,List.drop_eq_getElem_cons (by simpa using hlt)]
    simp
   rw[hone] at hr
   refine e9y hE hback hlt (fun i h1 h2=>b8u hc1 (by omega) (by omega) (by omega)) hsz hl hI hr ?_
   intro G s a w listed hsz hl hI hp
   exact ih (lo+1) kn fuel G s a w listed (by omega) hsz hl hI hp
  ·split at hr
   case h_3=>exact hr.elim
   case h_1 hfd hal =>
    unfold e5b at hr
    split at hr
    case h_2=>exact hr.elim
    case h_1 hmix =>
    have hseg:∀ i o,(i,o)∈a8e lo ((ops.toList.take hi).drop lo)↔lo≤i∧i<hi∧ops.toList[i]?=some o:=fun i o=>by
     rw[c6s]
     constructor
     ·rintro⟨j,rfl,h⟩
      obtain⟨h1,h2⟩:=c7t h
      exact⟨by omega,h2,h1⟩
     ·rintro⟨h1,h2,h3⟩
      exact⟨i - lo,by omega,a7q h3 h1 h2⟩
    have hnd:=d0n ((ops.toList.take hi).drop lo) lo
    have hsl:(a8e lo ((ops.toList.take hi).drop lo)).length=hi - lo:=by rw[d6s];simp;omega
    have hdis:∀ x∈a8e lo ((ops.toList.take hi).drop lo),∀ y∈a8e lo ((ops.toList.take hi).drop lo),∀ t,x.2.dst=some t→y.2.dst=some t→x.1=y.1:=fun x hx y hy t hxt hyt=>by
     have h1:=(hseg x.1 x.2).1 hx
     have h2:=(hseg y.1 y.2).1 hy
     exact c9h hfd x.1 y.1 t h1.1 h1.2.1 h2.2.1 (by simp[a1f,h1.2.2,hxt]) (by simp[a1f,h2.2.2,hyt])
    generalize a8e lo ((ops.toList.take hi).drop lo)=seg at *
    simp only[e8z,Bool.and_eq_true,List.all_eq_true] at hmix
    obtain⟨t,b,q1,q2,q3⟩:=d6j hE hI hr
    obtain⟨q4,q5⟩:=a9j q3
    have hsubl:∀ p:Nat×Oper→Bool,((seg.filter p).map (·.1)).Nodup:=fun p=>hnd.sublist (List.Sublist.map _ List.filter_sublist)
    have huniq:∀ x∈seg,∀ y∈seg,x.1=y.1→x=y:=fun x hx y hy e=>by
     obtain⟨x1,x2⟩:=x
     obtain⟨y1,y2⟩:=y
     simp only at e
     subst e
     have h1:=((hseg _ _).1 hx).2.2
     rw[((hseg _ _).1 hy).2.2] at h1
     simp only[Option.some.injEq] at h1
     rw[h1]
    refine e4h hE (hi:=hi) (Seg:=seg) hback hc3 ?_ (fun x hx=>by simpa using (hmix.1 x hx).1) (fun x hx=>(hmix.1 x hx).2) ?_ hdis (fun fuel G s a w listed hf hsz hl hI hp=>ih hi kn fuel G s a w listed (by omega) hsz hl hI hp) (fuel+(c6p (a0u ops.toList []) (seg.filter fun r => !a9i (a0u ops.toList []) seg r)).length) fuel (seg.filter (a9i (a0u ops.toList []) seg)) (c6p (a0u ops.toList []) (seg.filter fun r => !a9i (a0u ops.toList []) seg r))
     ((seg.filter (a9i (a0u ops.toList []) seg)).map (·.1)) [] [] G t a b w listed (Nat.le_refl _) ?_ hsz ?_ ?_ (hsubl _) ((((a8c _ _).map (·.1)).nodup_iff).2 (hsubl _)) ?_ List.nodup_nil List.nodup_nil (fun p hp=>by cases hp) (fun p hp=>by cases hp) ?_ ?_ ?_ ?_ ?_ seg.length ?_
    ·intro j o hj ho k hk
     have:=(List.getElem?_eq_some_iff.1 ho).1
     exact b8u hc1 hj (by rw[halen];simpa using this) hk
    ·intro x hx he
     have:=hmix.2 x hx
     simpa [he] using this
    ·rw[List.length_map,(a8c _ _).length_eq,d2v,hsl,List.length_nil,List.length_nil];omega
    ·intro i hi'
     obtain⟨⟨i',o⟩,h1,rfl⟩:=List.mem_map.1 hi'
     obtain⟨h2,h3⟩:=List.mem_filter.1 h1
     have h4:=(hseg _ _).1 h2
     refine⟨h4.2.1,o,h4.2.2,h1,h2,?_⟩
     have:=hmix.2 _ h2
     rw[h3] at this
     have hne:a7w o.op=false:=by
      have:=c5i (op:=o.op) (by simp only[a9i,Bool.and_eq_true] at h3;exact h3.1)
      simp only[a2g,Bool.or_eq_false_iff] at this
      exact this.2.1
     exact⟨h3,by simpa [hne] using this⟩
    ·intro x hx
     have hx:=(a8c _ _).mem_iff.1 hx
     have h2:=(List.mem_filter.1 hx).1
     have h4:=(hseg _ _).1 h2
     exact⟨h4.2.1,h4.2.2,h2⟩
    ·intro i hi' x hx e
     have hx:=(a8c _ _).mem_iff.1 hx
     obtain⟨y,h1,rfl⟩:=List.mem_map.1 hi'
     obtain⟨h2,h3⟩:=List.mem_filter.1 h1
     obtain⟨h4,h5⟩:=List.mem_filter.1 hx
     have:=huniq _ h2 _ h4 e
     subst this
     rw[h3] at h5
     cases h5
    ·intro k hk
     rw[hl k hk]
     constructor
     ·intro h
      refine⟨by omega,fun hm=>?_, .inl fun x hx e=>?_⟩
      ·obtain⟨y,h1,rfl⟩:=List.mem_map.1 hm
       have:=((hseg _ _).1 (List.mem_filter.1 h1).1).1
       omega
      ·have:=((hseg _ _).1 (List.mem_filter.1 ((a8c _ _).mem_iff.1 hx)).1).1
       omega
     ·rintro⟨h1,h2,h3⟩
      have h3:=h3.resolve_right (by simp)
      rcases Nat.lt_or_ge k lo with h|h
      ·exact h
      ·have hm:(k,ops[k])∈seg:=(hseg _ _).2 ⟨h,h1,by simp⟩
       cases hr:a9i (a0u ops.toList []) seg (k,ops[k]) with
       | true=>exact absurd (List.mem_map.2 ⟨_,List.mem_filter.2 ⟨hm,hr⟩,rfl⟩) h2
       | false=>exact absurd rfl (h3 _ ((a8c _ _).mem_iff.2 (List.mem_filter.2 ⟨hm,by simp[hr]⟩)))
    ·intro k hk hkl o ho e he hb
     have h1:=a1e hback k o ho e he hb
     have h2:=(hl k hk).1 hkl
     exact (hl e.on (by omega)).2 (by omega)
    ·exact q1
    ·refine q2.mono fun d hd=>?_
     obtain⟨r,h1,h2⟩:=a5n.1 hd
     have h4:=(hseg _ _).1 (List.mem_filter.1 h1).1
     exact List.mem_append.2 (.inl (List.mem_filterMap.2 ⟨r.1,List.mem_map.2 ⟨r,h1,rfl⟩,by simp[a1f,h4.2.2,h2]⟩))
    ·intro i hi' o ho
     obtain⟨⟨i',o'⟩,h1,rfl⟩:=List.mem_map.1 hi'
     have h4:=((hseg _ _).1 (List.mem_filter.1 h1).1).2.2
     simp only at ho
     rw[h4] at ho
     simp only[Option.some.injEq] at ho
     subst ho
     exact q4 _ h1
    ·exact q5
   case h_2 hfd hal =>
   have hdst:=c9h hfd
   obtain⟨es,kn',s',htr,hq⟩:=b4q hr
   have hlen:((ops.toList.take hi).drop lo).length=hi - lo:=by simp;omega
   obtain⟨ht1,ht2⟩:=d9m (lo:=lo) (s0:=((ops.toList.take hi).drop lo).foldl a0c.fresh s) ((ops.toList.take hi).drop lo) lo es (List.replicate lo ⟨false, .any,none⟩) _ s' htr (fun j o ho=>(c7t ho).1) (by simp) (Nat.le_refl _) (by simp[seg,stL])
   rw[hlen,show lo+(hi - lo)=hi by omega] at ht2
   subst ht2
   have hI0:Inv c G (((ops.toList.take hi).drop lo).foldl a0c.fresh s) a w:=c3b _ hI
   refine e9g hE (lo:=lo) (m:=hi) (es:=List.replicate lo ⟨false, .any,none⟩++es) (s0:=((ops.toList.take hi).drop lo).foldl a0c.fresh s) hback hc3 ?_ ?_ hdst ?_ (fun i o h1 h2 ho=>e4a hfd h1 h2 ho) ?_ ?_ fuel [] G a w listed (by simp;omega) (by simp) (by simp) hsz (by simpa using hl) (by simp) (by omega) hI0
   ·intro j o hj ho k hk
    have:=(List.getElem?_eq_some_iff.1 ho).1
    exact b8u hc1 hj (by rw[halen];simpa using this) hk
   ·intro j o hj ho k hk
    have:=(List.getElem?_eq_some_iff.1 ho).1
    exact b8u hc0 hj (by rw[halen];simpa using this) hk
   ·intro i o h1 h2 ho
    have:=ht1 (i - lo) o (a7q ho h1 h2)
    rwa [show lo+(i - lo)=i by omega] at this
   ·intro i o t h1 h2 ho hcr hdt
    exact (c0f ((ops.toList.take hi).drop lo) s t).2 o (List.mem_of_getElem? (a7q ho h1 h2)) hcr hdt
   ·intro fuel G a w listed hf hsz hl hI
    exact ih hi kn' fuel G _ a w listed (by omega) hsz hl hI (d8r hI hq)
theorem d9p(hE:a0r c.P c.E)(hmix:c.P.follows .mixedOrders=true){id:Nat}{ops:Array Oper}{Q:a0c→Prop}{Q':Exit→Act→World→Prop}(hQ:∀ G s a w,Inv c G s a w→Q s→Q' .normal a w)
  (h:Inv c G s a w) (hd:d7i c.E ops Q s):(Code.region id ops true).wp c.P Q' a w:=by
 unfold d7i at hd
 simp only at hd
 split at hd
 ·exact d9q hE hmix hQ h hd
 ·split at hd
  case h_2=>exact hd.elim
  case h_1 hback =>
  refine wp_region_any hmix ?_
  exact e4p hE hback hQ _ 0 [] ops.size G s a _ _ (by simp) (by simp) (by intro k hk;simp[hk]) (a0l.drew h) hd
end
end Go.Proofs.YtmdefiphdgcijaaDoor

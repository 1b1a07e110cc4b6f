/- The operations that build slices of memory of one's own. -/
import Derived.Test.YtmdefiphdgcijaaDoorVmOwnOps
import Derived.Test.YtmdefiphdgcijaaDoorVmBuild
set_option linter.unusedVariables false
set_option linter.unusedSimpArgs false
namespace Go.Proofs.YtmdefiphdgcijaaDoor
section
variable {c:Ctx} {G:Gh} {s:a0c} {a:Act} {w w':World}
theorem Inv.built(h:Inv c G s a w){ids:List Nat}{d:Nat}{τ:Ty}{zs:List τ.den}{fp:List Nat}{v':Value}{l:List Value}(hk:a1p (fun b=>InF G s.look ids b) w w')(hT:a4l w' (.tuple (v'::l).toArray) τ zs fp)
  (hv:∃ a n m,v' = .slice a n m) (hnd:fp.Nodup) (hfp:∀ b∈fp,InF G s.look ids b∨(w.heap.size≤b∧b<w'.heap.size)) (hnone:(ids.foldl a0c.gone s).look (a0s d)=none) :
  ∃ G',Inv c G' ((ids.foldl a0c.gone s).addTree d τ zs) (a.put (some d) v') w':=by
 have h1:Inv c G (ids.foldl a0c.gone s) a w:=b7j ids h
 have hF:∀ b,InF G s.look ids b→FrB c G (ids.foldl a0c.gone s).look w b:=fun b hb=>c9g h hb
 generalize hs1:ids.foldl a0c.gone s=s1 at *
 have hblk:∀ b,b<w.heap.size→¬ InF G s.look ids b→w'.heap[b]?=w.heap[b]?:=fun b hb hn=>hk.block b hb hn
 have h2:a0l c G s1.sl s1.slots.length s1.look a w':=by
  refine a0l.world (S':=G.S) h1 ⟨hk.os,hk.tape,hk.output,hk.size,fun b hb hn=>hblk b hb fun hi=>hn (hF b hi).1⟩ (fun _ h=>h) (fun _ _=>Iff.rfl) h1.sX (fun b hb=>Nat.lt_of_lt_of_le (h1.sLt b hb) hk.size) ?_ ?_ ?_
  ·intro b hb
   rcases hb with hb|hb
   ·exact hblk b (h1.sLt b hb) fun hi=>(hF b hi).2.1 hb
   ·exact hblk b (Nat.lt_of_lt_of_le hb.1 h1.keep.size) fun hi=>(hF b hi).1.elim (fun q=>by omega) hb.2.1
  ·intro id o b ho hb
   exact hblk b (h1.place id o b ho hb).2.2 fun hi=>(hF b hi).2.2.2.1 id o ho hb
  ·intro id τ' xs' b ht hb
   exact hblk b (h1.trees.pl id τ' xs' b ht hb).2.2.1 fun hi=>(hF b hi).2.2.2.2 id τ' xs' ht hb
 obtain⟨r1,r2⟩:=h2.noref hnone
 have hR:c.R (a0s d)=none:=by
  cases hr:c.R (a0s d) with
  | none=>rfl
  | some v=>have:=(h.rng _ v hr).2;unfold a0s at this;omega
 have h3:=h2.newTree (a0s d) τ zs _ fp hnone r1 r2 hR hT hnd (fun b hb=>by
  rcases hfp b hb with hi|⟨q1,q2⟩
  ·obtain⟨f1,f2,f3,f4,f5⟩:=hF b hi
   exact⟨f1,f2,Nat.lt_of_lt_of_le f3 hk.size,f4,f5⟩
  ·refine⟨.inl (Nat.le_trans h1.keep.size q1),fun hs=>?_,q2,fun i o hio hbi=>?_,fun j τ2 xs2 hj hbj=>?_⟩
   ·have:=h1.sLt b hs;omega
   ·have:=(h1.place i o b hio hbi).2.2;omega
   ·have:=(h1.trees.pl j τ2 xs2 b hj hbj).2.2.1;omega)
 have key:=a0l.put (d:=some d) (v := .tree (a0s d)) (x:=v') h3 ⟨by simp[a1i],l,by simp,hv⟩
 have hlk:(s1.addTree d τ zs).look=fun i=>if i=a0s d then some (.tree τ zs) else s1.look i:=by
  funext i
  exact a2j _ _ _ _
 have conv:∀ G',a0l c G' (a5y s1.slots.length s1.sl (some d) (.tree (a0s d))) s1.slots.length (fun i=>if i=a0s d then some (.tree τ zs) else s1.look i) (a.put (some d) v') w'→Inv c G' (s1.addTree d τ zs) (a.put (some d) v') w':=by
  intro G' hh
  unfold Inv
  rw[hlk,show (s1.addTree d τ zs).sl=a5y s1.slots.length s1.sl (some d) (.tree (a0s d)) from b1d _ d _ _,show (s1.addTree d τ zs).slots.length=s1.slots.length from by simp[a0c.addTree]]
  exact hh
 exact⟨_,conv _ key⟩
theorem Inv.over{s1:a0c}{X:Nat→Prop}(h1:Inv c G s1 a w)(hF:∀ b,X b→FrB c G s1.look w b)(hk:a1p X w w'):a0l c G s1.sl s1.slots.length s1.look a w':=by
 have hblk:∀ b,b<w.heap.size→¬ X b→w'.heap[b]?=w.heap[b]?:=fun b hb hn=>hk.block b hb hn
 refine a0l.world (S':=G.S) h1 ⟨hk.os,hk.tape,hk.output,hk.size,fun b hb hn=>hblk b hb fun hi=>hn (hF b hi).1⟩ (fun _ h=>h) (fun _ _=>Iff.rfl) h1.sX (fun b hb=>Nat.lt_of_lt_of_le (h1.sLt b hb) hk.size) ?_ ?_ ?_
 ·intro b hb
  rcases hb with hb|hb
  ·exact hblk b (h1.sLt b hb) fun hi=>(hF b hi).2.1 hb
  ·exact hblk b (Nat.lt_of_lt_of_le hb.1 h1.keep.size) fun hi=>(hF b hi).1.elim (fun q=>by omega) hb.2.1
 ·intro id o b ho hb
  exact hblk b (h1.place id o b ho hb).2.2 fun hi=>(hF b hi).2.2.2.1 id o ho hb
 ·intro id τ' xs' b ht hb
  exact hblk b (h1.trees.pl id τ' xs' b ht hb).2.2.1 fun hi=>(hF b hi).2.2.2.2 id τ' xs' ht hb
theorem FrB.not_sx{lk:Nat→Option a0d}{b:Nat}(h:FrB c G lk w b):¬ SX G lk b:=by
 rintro (hb|⟨id,e,τ,ys,hid,hb⟩|⟨id,τ,ys,hid,hb⟩)
 ·exact h.2.1 hb
 ·exact h.2.2.2.1 id _ hid hb
 ·exact h.2.2.2.2 id τ ys hid hb
theorem b8f(h:Inv c G s a w):∀ {fl:List Bool} {Ts:List TypeId} {vs:List AV} {xs:List Value} {own:List (Option TV)} {ids:List Nat},a5j c.E s.look fl Ts vs=some (own,ids)→ids.Nodup→a0g (VR c G s.look w) vs xs →
  ∃ fps:List (List Nat),a0g (fun (o:Option TV) (q:Value×List Nat)=>match o with
   | some v=>OwV w v q.1 q.2
   | none=>q.2=[]) own (xs.zip fps)∧fps.length=xs.length∧fps.flatten.Nodup∧∀ b∈fps.flatten,InF G s.look ids b
 | [],[],[],[],own,ids,ht,_,_=>by
  simp only[a5j,Option.some.injEq,Prod.mk.injEq] at ht
  obtain⟨rfl,rfl⟩:=ht
  exact⟨[],trivial,rfl,by simp,by simp⟩
 | true::fl,T::Ts,v::vs,x::xs,own,ids,ht,hn,hv=>by
  simp only[a5j] at ht
  split at ht
  case h_2=>cases ht
  case h_1 τ q hT =>
  split at ht
  case h_2=>cases ht
  case h_1 y i hy =>
  split at ht
  case h_2=>cases ht
  case h_1 r j hr =>
  simp only[Option.some.injEq,Prod.mk.injEq] at ht
  obtain⟨rfl,rfl⟩:=ht
  rw[List.nodup_append] at hn
  obtain⟨n1,n2,n3⟩:=hn
  obtain⟨f1,o1,o2,o3⟩:=b0b h hy hv.1 n1
  obtain⟨fps,p1,p2,p3,p4⟩:=b8f h hr n2 hv.2
  refine⟨f1::fps,⟨o1,p1⟩,by simp[p2],?_,?_⟩
  ·rw[List.flatten_cons]
   exact a3i o2 p3 fun b hb hb'=>h.inf_apart (o3 b hb) (p4 b hb') (fun x hx y hy=>n3 x hx y hy)
  ·intro b hb
   rw[List.flatten_cons] at hb
   rcases List.mem_append.1 hb with hb|hb
   ·exact (o3 b hb).mono fun i hi=>by simp[hi]
   ·exact (p4 b hb).mono fun i hi=>by simp[hi]
 | false::fl,T::Ts,v::vs,x::xs,own,ids,ht,hn,hv=>by
  simp only[a5j] at ht
  split at ht
  case h_2=>cases ht
  case h_1 r j hr =>
  simp only[Option.some.injEq,Prod.mk.injEq] at ht
  obtain⟨rfl,rfl⟩:=ht
  obtain⟨fps,p1,p2,p3,p4⟩:=b8f h hr hn hv.2
  exact⟨[]::fps,⟨rfl,p1⟩,by simp[p2],by simpa using p3,by simpa using p4⟩
 | [],_::_,_,_,_,_,ht,_,_=>by simp[a5j] at ht
 | [],[],_::_,_,_,_,ht,_,_=>by simp[a5j] at ht
 | [],[],[],_::_,_,_,_,_,hv=>hv.elim
 | true::_,[],_,_,_,_,ht,_,_=>by simp[a5j] at ht
 | false::_,[],_,_,_,_,ht,_,_=>by simp[a5j] at ht
 | true::_,_::_,[],_,_,_,ht,_,_=>by simp[a5j] at ht
 | false::_,_::_,[],_,_,_,ht,_,_=>by simp[a5j] at ht
 | _,_,_::_,[],_,_,_,_,hv=>hv.elim
theorem b6l(hE:a0r c.P c.E)(h:Inv c G s a w):∀ {own:List (Option TV)} {Ts:List TypeId} {vs:List AV} {xs:List Value} {fps:List (List Nat)} {as:List Arg},a4i c.E s.look own Ts vs=some as →
  a0g (fun (o:Option TV) (q:Value×List Nat)=>match o with
   | some v=>OwV w v q.1 q.2
   | none=>q.2=[]) own (xs.zip fps)→fps.length=xs.length→a0g (VR c G s.look w) vs xs→b2x c.P w (SX G s.look) as xs fps.flatten∧∀ a∈as,a.solid=true
 | [],[],[],[],fps,as,hm,hO,hl,hv=>by
  simp only[a4i,Option.some.injEq] at hm
  subst hm
  have:fps=[]:=List.eq_nil_of_length_eq_zero (by simpa using hl)
  subst this
  exact⟨rfl,by simp⟩
 | some y::own,T::Ts,v::vs,x::xs,f::fps,as,hm,hO,hl,hv=>by
  simp only[a4i] at hm
  split at hm
  case h_2=>cases hm
  case h_1 r hr =>
  simp only[Option.some.injEq] at hm
  subst hm
  obtain⟨q1,q2⟩:=b6l hE h hr hO.2 (by simpa using hl) hv.2
  refine⟨⟨f,fps.flatten,by simp,hO.1,q1⟩,fun a ha=>?_⟩
  rcases List.mem_cons.1 ha with rfl|ha
  ·rfl
  ·exact q2 a ha
 | none::own,T::Ts,v::vs,x::xs,f::fps,as,hm,hO,hl,hv=>by
  simp only[a4i] at hm
  split at hm
  case h_2=>cases hm
  case h_1 y hy =>
  split at hm
  case h_2=>cases hm
  case h_1 r hsol hr =>
  simp only[Option.some.injEq] at hm
  subst hm
  obtain⟨q1,q2⟩:=b6l hE h hr hO.2 (by simpa using hl) hv.2
  have hf:f=[]:=hO.1
  subst hf
  have h1:=a6r hE h (fun _ _ h=>h) (fun _ h => .inl h) (fun τ v x y h1 h2=>b9r h.trees h.objs (fun _ _ h=>h) h1 h2) (Ts:=[T]) (vs:=[v]) (as:=[y]) (xs:=[x]) (by simp only[a8u,hy]) ⟨hv.1,trivial⟩
  refine⟨⟨[],fps.flatten,by simp,?_,q1⟩,fun a ha=>?_⟩
  ·have h1:=h1.1
   cases y with
   | own v=>exact h1.elim
   | box k=>exact h1.elim
   | _=>exact⟨rfl,h1⟩
  ·rcases List.mem_cons.1 ha with rfl|ha
   ·exact hsol
   ·exact q2 a ha
 | [],[],[],_::_,_,_,_,_,_,hv=>hv.elim
 | _,_,_::_,[],_,_,_,_,_,hv=>hv.elim
 | [],_::_,_,_,_,_,hm,_,_,_=>by simp[a4i] at hm
 | [],[],_::_,_,_,_,hm,_,_,_=>by simp[a4i] at hm
 | some _::_,[],_,_,_,_,hm,_,_,_=>by simp[a4i] at hm
 | none::_,[],_,_,_,_,hm,_,_,_=>by simp[a4i] at hm
 | some _::_,_::_,[],_,_,_,hm,_,_,_=>by simp[a4i] at hm
 | none::_,_::_,[],_,_,_,hm,_,_,_=>by simp[a4i] at hm
 | _::_,_::_,_::_,_::_,[],_,_,_,hl,_=>by simp at hl
theorem d9l{lk:Nat→Option a0d}{τ:Ty}:∀ {ps:List (Nat×AV)} {n:Nat} {xs:List τ.den} {ids:List Nat},c2n lk τ n ps=some (xs,ids)→xs.length=ps.length
 | [],n,xs,ids,h=>by
  simp only[c2n,Option.some.injEq,Prod.mk.injEq] at h
  obtain⟨rfl,_⟩:=h;rfl
 | (i,v)::ps,n,xs,ids,h=>by
  simp only[c2n] at h
  split at h
  ·split at h
   ·split at h
    ·rename_i q
     simp only[Option.some.injEq,Prod.mk.injEq] at h
     obtain⟨rfl,_⟩:=h
     simp[d9l q]
    ·cases h
   ·cases h
  ·cases h
theorem d6z(h:Inv c G s a w){τ:Ty}{place:Nat→Option (Nat×Nat)}(hp:∀ i,place i=some (i * τ.size,τ.size)) :
  ∀ {ps:List (Nat×AV)} {vs:List (Nat×Value)} {n:Nat} {xs:List τ.den} {ids:List Nat} {l:List Value},c2n s.look τ n ps=some (xs,ids)→a0g (fun p q=>p.1=q.1∧VR c G s.look w p.2 q.2) ps vs→ids.Nodup →
   (n+ps.length) * τ.size=l.length→∃ r fp,Instr.fill place l.toArray vs=some (l.take (n * τ.size)++r).toArray∧a0x w (xs.map τ.toD) r fp∧r.length=xs.length * τ.size∧fp.Nodup∧∀ b∈fp,InF G s.look ids b
 | [],[],n,xs,ids,l,h1,_,_,hl=>by
  simp only[c2n,Option.some.injEq,Prod.mk.injEq] at h1
  obtain⟨rfl,rfl⟩:=h1
  refine⟨[],[],?_,rfl,by simp,List.nodup_nil,by simp⟩
  simp only[List.length_nil,Nat.add_zero] at hl
  rw[hl,List.take_length,List.append_nil]
  rfl
 | (i,v)::ps,(j,x)::vs,n,xs,ids,l,h1,hv,hnd,hl=>by
  obtain⟨⟨hij,hx⟩,hrest⟩:=hv
  have hij:i=j:=hij
  subst hij
  simp only[c2n] at h1
  split at h1
  ·rename_i hin
   have hin:=Nat.eq_of_beq_eq_true hin
   subst hin
   split at h1
   ·rename_i y i1 hy
    split at h1
    ·rename_i ys js hys
     simp only[Option.some.injEq,Prod.mk.injEq] at h1
     obtain⟨rfl,rfl⟩:=h1
     rw[List.nodup_append] at hnd
     obtain⟨n1,n2,n3⟩:=hnd
     obtain⟨f1,o1,o2,o3⟩:=b0b h hy hx n1
     have hr:=OwV.cells o1
     have hsz:x.cells.size=τ.size:=by
      have:=Ow.length _ hr
      rw[Ty.size_toD] at this
      simpa using this
     simp only[List.length_cons] at hl
     have hpos:=τ.size_pos
     have e1:(i+(ps.length+1)) * τ.size=i * τ.size+τ.size+ps.length * τ.size:=by
      rw[Nat.add_mul,Nat.add_mul];omega
     rw[d3u place i _ _ x vs l (hp i) hsz (by omega)]
     obtain⟨r,f2,q1,q2,q3,q4,q5⟩:=d6z h hp (l:=l.take (i * τ.size)++x.cells.toList++l.drop (i * τ.size+τ.size)) hys hrest n2 (by
      simp[hsz]
      rw[show (i+1+ps.length) * τ.size=i * τ.size+τ.size+ps.length * τ.size by rw[Nat.add_mul,Nat.add_mul];omega]
      omega)
     refine⟨x.cells.toList++r,f1++f2,?_,⟨_,_,f1,f2,rfl,rfl,hr,q2⟩,?_,?_,?_⟩
     ·rw[q1]
      congr 2
      rw[show (i+1) * τ.size=i * τ.size+τ.size by rw[Nat.add_mul];omega]
      have ht:(l.take (i * τ.size)++x.cells.toList).length=i * τ.size+τ.size:=by simp[hsz];omega
      rw[←ht,List.take_left,List.append_assoc]
     ·simp only[List.length_append,List.length_cons,Array.length_toList,hsz,q3,Nat.add_mul];omega
     ·exact a3i o2 q4 fun b hb hb'=>h.inf_apart (o3 b hb) (q5 b hb') (fun x hx y hy=>n3 x hx y hy)
     ·intro b hb
      rcases List.mem_append.1 hb with hb|hb
      ·exact (o3 b hb).mono fun i hi=>by simp[hi]
      ·exact (q5 b hb).mono fun i hi=>by simp[hi]
    ·cases h1
   ·cases h1
  ·cases h1
 | [],_::_,_,_,_,_,_,hv,_,_=>hv.elim
 | _::_,[],_,_,_,_,_,hv,_,_=>hv.elim
theorem a1p.mono'{X Y:Nat→Prop}{w w':World}(h:a1p X w w')(hXY:∀ b,X b→Y b):a1p Y w w':=⟨h.os,h.tape,h.output,h.size,fun b hb hn=>h.block b hb fun hx=>hn (hXY b hx)⟩
theorem e1k(h:Inv c G s a w){ids:List Nat}{b:Nat}(hb:InF G s.look ids b):b<w.heap.size:=(c9g h hb).2.2.1
theorem e4r{lk:Nat→Option a0d}{τ:Ty}{v:AV}{r:τ.den×List Nat}(h:a2i lk τ v=some r):v.cell=true∨∃ s x,v = .imm ⟨.st s,x⟩:=by
 cases v with
 | imm u =>
  obtain⟨τ',x⟩:=u
  cases τ' with
  | st s=>exact .inr ⟨s,x,rfl⟩
  | _=>exact .inl rfl
 | nil=>exact .inl rfl
 | tree id=>exact .inl rfl
 | row id=>exact .inl rfl
 | _=>simp[a2i] at h
theorem e9c(h:Inv c G s a w){τ:Ty}{v:AV}{x:Value}{xs:List τ.den}{ids:List Nat}(ht:a2i s.look (.slice τ) v=some (xs,ids))(hv:VR c G s.look w v x):∃ fp,Ow w (.slice τ.size (xs.map τ.toD)) [x] fp∧fp.Nodup∧∀ b∈fp,InF G s.look ids b:=by
 rcases e4r ht with hc|⟨st,y,rfl⟩
 ·exact b9f h ht (hv.toC1 hc)
 ·simp[a2i,Ty.scal] at ht
theorem a7v:∀ {us:List TV} {cs:List Value} {fp:List Nat},a1t w (us.map TV.toD) cs fp→b9h us→a1t w ((us.map e4c).map TV.toD) cs fp
 | [],_,_,h,_=>h
 | ⟨τ,x⟩::us,cs,fp,h,hf=>by
  obtain⟨v,r,f1,f2,rfl,rfl,h3,h4⟩:=h
  cases τ with
  | mv t =>
   have hf:Option.isSome (α:=List t.den) x=true∧b9h us:=hf
   refine⟨v,r,f1,f2,rfl,rfl,?_,a7v h4 hf.2⟩
   match x,hf.1,h3 with
   | some l,_,h3=>exact h3
  | ptr=>exact⟨v,r,f1,f2,rfl,rfl,h3,a7v h4 hf⟩
  | int k=>exact⟨v,r,f1,f2,rfl,rfl,h3,a7v h4 hf⟩
  | bool=>exact⟨v,r,f1,f2,rfl,rfl,h3,a7v h4 hf⟩
  | str=>exact⟨v,r,f1,f2,rfl,rfl,h3,a7v h4 hf⟩
  | slice t=>exact⟨v,r,f1,f2,rfl,rfl,h3,a7v h4 hf⟩
  | st q=>exact⟨v,r,f1,f2,rfl,rfl,h3,a7v h4 hf⟩
theorem d2t:∀ {us:List TV} {cs:List Value} {fp:List Nat},a1t w (us.map TV.toD) cs fp→(∀ u∈us,u.τ.mvScal=true)→a1t w ((us.map e0w).map TV.toD) cs []
 | [],_,_,h,_=>⟨h.1,rfl⟩
 | ⟨τ,x⟩::us,cs,fp,h,hf=>by
  obtain⟨v,r,f1,f2,rfl,rfl,h3,h4⟩:=h
  have hr:=d2t h4 fun u hu=>hf u (by simp[hu])
  have sc:τ.scal=true→Ow w (τ.toD x) [v] []:=fun hs=>Ow.of_light (S:=fun _=>True) _ (b5k hs x) (Ow.rd _ h3 fun _ _=>trivial)
  have hm:τ.mvScal=true:=hf ⟨τ,x⟩ (by simp)
  cases τ with
  | mv t =>
   refine⟨v,r,[],[],rfl,rfl,?_,hr⟩
   match x,h3 with
   | some l,h3=>obtain⟨a',cap,k1,_⟩:=h3;exact⟨⟨_,_,_,k1⟩,rfl⟩
   | none,h3=>exact⟨h3.1,rfl⟩
  | int k=>exact⟨v,r,[],[],rfl,rfl,sc rfl,hr⟩
  | bool=>exact⟨v,r,[],[],rfl,rfl,sc rfl,hr⟩
  | str=>exact⟨v,r,[],[],rfl,rfl,sc rfl,hr⟩
  | slice t=>cases hm
  | ptr=>exact⟨v,r,[],[],rfl,rfl,sc rfl,hr⟩
  | st q=>cases hm
theorem e8l(l:List Value)(k n:Nat):l.take k++(l.drop k).take n++l.drop (k+n)=l:=by
 rw[List.append_assoc,←List.drop_drop,List.take_append_drop,List.take_append_drop]
theorem Inv.moved(h:Inv c G s a w){id i:Nat}{p q:a0h}{xs:List (Ty.den (.st p))}{y:p.den}{z:q.den}(hid:s.look id=some (.tree (.st p) xs))
  (hy:p.ofCells ((p.cells (xs.getD i (Ty.zero (.st p)))).map e0w)=some y) (hz:q.ofCells ((p.cells (xs.getD i (Ty.zero (.st p)))).map e4c)=some z) (hsc:p.ctys.all Ty.mvScal=true)
  (hfull:b9h (p.cells (xs.getD i (Ty.zero (.st p))))) {a0:Option Addr} {n cap:Nat} {l:List Value} (hη:G.η id = .tuple (.slice a0 n cap::l).toArray) (hi:i<n) :
  ∃ G' f1 b,a0=some ⟨b,0,none⟩∧a1x w b (i * p.size) ((l.drop (i * p.size)).take p.size)∧((l.drop (i * p.size)).take p.size).length=p.size∧Inv c G' (s.noSubs.setTree id (.st p) (xs.set i y)) a w ∧
   Ow w (q.toD z) ((l.drop (i * p.size)).take p.size) f1∧f1.Nodup∧Fr c G' (s.noSubs.setTree id (.st p) (xs.set i y)).look w f1:=by
 have hT:=h.trees.tr id _ xs hid
 obtain⟨hn,b,f,t,e1,hφ,hh,hrow⟩:=c1f hT hη hi
 have hxi:i<xs.length:=by omega
 have hcap:l.length=cap * p.size∧xs.length≤cap∧cap≤maxLen∧xs.length≤140737488355328:=by
  obtain⟨v0,l0,a1,cap1,k1,k2,k3,k4,k5,k6⟩:=hT
  rw[hη] at k1
  simp only[Value.tuple.injEq] at k1
  have k1:(Value.slice a0 n cap::l)=v0::l0:=congrArg Array.toList k1
  simp only[List.cons.injEq] at k1
  obtain⟨k7,rfl⟩:=k1
  rw[k2] at k7
  simp only[Value.slice.injEq] at k7
  obtain⟨_,_,rfl⟩:=k7
  rcases k6 with ⟨rfl,_,_⟩|⟨_,_,_,_,_,_,k8,_⟩
  ·simp at hxi
  ·exact⟨k8,k3,k4,k5⟩
 have hsz:∀ d∈xs.map (Ty.toD (.st p)),d.size=p.size:=d0a (τ := .st p) xs
 obtain⟨f0,f1,f2,hf,m0,m1,m2⟩:=a0x.split (xs.map (Ty.toD (.st p))) i (Ty.toD (.st p) (xs.getD i (Ty.zero (.st p)))) hrow hsz (by simp[List.getD,hxi])
 have hseg:((l.drop (i * p.size)).take p.size).length=p.size:=by rw[List.length_take,List.length_drop];omega
 have m1:Ow w (.agg ((p.cells (xs.getD i (Ty.zero (.st p)))).map TV.toD)) ((l.drop (i * p.size)).take p.size) f1:=by
  have:=m1
  rwa [show Ty.toD (.st p) (xs.getD i (Ty.zero (.st p)))=p.toD (xs.getD i (Ty.zero (.st p))) from rfl,a0h.toD_cells] at this
 have hz':Ow w (q.toD z) ((l.drop (i * p.size)).take p.size) f1:=by
  rw[a0h.toD_cells,a0h.ofCells_some hz]
  exact a7v m1 hfull
 have hy':Ow w (p.toD y) ((l.drop (i * p.size)).take p.size) []:=by
  rw[a0h.toD_cells,a0h.ofCells_some hy]
  refine d2t m1 fun u hu=>?_
  have:u.τ∈p.ctys:=by rw[←a0h.cells_tys p (xs.getD i (Ty.zero (.st p)))];exact List.mem_map.2 ⟨u,hu,rfl⟩
  exact List.all_eq_true.1 hsc _ this
 have hr:=m2 w (p.toD y) _ [] (fun _ _=>rfl) hseg hy'
 rw[e8l,List.append_nil] at hr
 have hnd:=h.trees.nd id _ xs hid
 rw[hφ,List.nodup_cons,hf] at hnd
 obtain⟨hb0,hnd⟩:=hnd
 have hnd0:=hnd
 rw[List.nodup_append,List.nodup_append] at hnd
 obtain⟨⟨d0,d1,d01⟩,d2,d012⟩:=hnd
 have hT':a4l w (G.η id) (.st p) (xs.set i y) (b::(f0++f2)):=by
  refine⟨_,l,a0,cap,hη,by rw[hn,List.length_set],by rw[List.length_set];exact hcap.2.1,hcap.2.2.1,by rw[List.length_set];exact hcap.2.2.2, .inr ⟨b,f0++f2,t,e1,rfl,hh,hcap.1,?_⟩⟩
  rw[List.map_set]
  exact hr
 have hsub:∀ k∈b::(f0++f2),k∈G.φ id:=fun k hk=>by
  rw[hφ,hf]
  simp only[List.mem_cons,List.mem_append] at hk ⊢
  rcases hk with hk|hk|hk<;>simp[hk]
 have hnd2:(b::(f0++f2)).Nodup:=by
  refine List.nodup_cons.2 ⟨fun hk=>hb0 ?_,a3i d0 d2 fun x hx hx'=>d012 x (by simp[hx]) x hx' rfl⟩
  simp only[List.mem_append] at hk ⊢
  rcases hk with hk|hk<;>simp[hk]
 have hf1:∀ k∈f1,k∈G.φ id∧k∉b::(f0++f2):=fun k hk=>by
  refine⟨by rw[hφ,hf];simp[hk],fun hm=>?_⟩
  simp only[List.mem_cons,List.mem_append] at hm
  rcases hm with rfl|hm|hm
  ·exact hb0 (by simp[hk])
  ·exact d01 k hm k hk rfl
  ·exact d012 k (by simp[hk]) k hm rfl
 obtain⟨g1,g2,g3⟩:=h.noSubs
 have hid1:s.noSubs.look id=some (.tree (.st p) xs):=by rw[a8k];simp[hid,a0d.killSub]
 let A:List (Nat×TE):=[(id,(G.η id,b::(f0++f2), .tree (.st p) (xs.set i y)))]
 have T:=c2q.ofList (c:=c) (G:=G) (lk:=s.noSubs.look) (w:=w) (w':=w) (A:=A) (fun e he=>by
  simp only[A,List.mem_singleton] at he
  subst he
  exact⟨_,xs,_,_,l,l,hid1,rfl,hη,hη,hT',hnd2⟩) (fun e he k hk=>by
  simp only[A,List.mem_singleton] at he
  subst he
  exact .inl ⟨_,List.mem_singleton.2 rfl,hsub k hk⟩) (fun e he e' he' _ _ _=>by
  simp only[A,List.mem_singleton] at he he'
  rw[he,he']) (by simp[A]) (fun _ _ _=>rfl) rfl rfl rfl (Nat.le_refl _)
 have hI:=a0l.turn g1 T g2 g3
 have hlk:(s.noSubs.setTree id (.st p) (xs.set i y)).look=teL A s.noSubs.look:=by
  funext j
  rw[a4o,d1x]
 refine⟨⟨G.S,teη A G,teφ A G⟩,f1,b,e1,?_,hseg,?_,hz',d1,?_⟩
 ·have:=(a1x.of_heap hh).part (i * p.size) p.size
  rwa [Nat.zero_add] at this
 ·unfold Inv
  rw[hlk]
  exact hI
 ·intro k hk
  obtain⟨k1,k2⟩:=hf1 k hk
  obtain⟨q1,q2,q3,q4⟩:=g1.trees.pl id _ xs k hid1 k1
  refine⟨q1,q2,q3,fun j o hj hbj=>?_,fun j τ ys hj hbj=>?_⟩
  ·have hbj:blk (teη A G j)=some k:=hbj
   rw[a4o] at hj
   by_cases hji:j=id
   ·subst hji
    have:teη A G j=G.η j:=by simp[teη,A,a0f]
    rw[this,hη] at hbj
    cases hbj
   ·rw[if_neg hji] at hj
    have:teη A G j=G.η j:=by
     have hne:Nat.beq id j=false:=by
      cases hb:Nat.beq id j with
      | false=>rfl
      | true=>exact absurd (Nat.eq_of_beq_eq_true hb).symm hji
     simp[teη,A,a0f,hne]
    rw[this] at hbj
    exact q4 j o hj hbj
  ·have hbj:k∈teφ A G j:=hbj
   rw[a4o] at hj
   by_cases hji:j=id
   ·subst hji
    have:teφ A G j=b::(f0++f2):=by simp[teφ,A,a0f]
    rw[this] at hbj
    exact k2 hbj
   ·rw[if_neg hji] at hj
    have:teφ A G j=G.φ j:=by
     have hne:Nat.beq id j=false:=by
      cases hb:Nat.beq id j with
      | false=>rfl
      | true=>exact absurd (Nat.eq_of_beq_eq_true hb).symm hji
     simp[teφ,A,a0f,hne]
    rw[this] at hbj
    exact hji (g1.trees.ap j id _ _ _ _ k hj hid1 hbj k1)
theorem e5e(hE:a0r c.P c.E)(h:Inv c G s a w){o:Oper}{vc:Vc}{s':a0c}(hq:bop c.E s o=some (vc,s'))(hvc:vc.ok){Q:Exit→Act→World→Prop} :
  o.wp c.P a w (fun a' w'=>∃ G',Inv c G' s' a' w') Q:=by
 unfold bop at hq
 split at hq
 case h_2=>cases hq
 case h_1 d hd =>
 split at hq
 case h_2=>cases hq
 case h_1 hown =>
 split at hq
 case h_4=>cases hq
 case h_1 T len parts hop =>
  split at hq
  case h_2=>cases hq
  case h_1 τ p hT =>
  obtain⟨b,e⟩:=p
  split at hq
  case h_2=>cases hq
  case h_1 hlen =>
  split at hq
  case h_2=>cases hq
  case h_1 xs ids hxs =>
  split at hq
  case h_2=>cases hq
  case h_1 hb hnone =>
  simp only[Option.some.injEq,Prod.mk.injEq] at hq
  obtain⟨rfl,rfl⟩:=hq
  simp only[Bool.and_eq_true] at hlen
  have hl1:=Nat.eq_of_beq_eq_true hlen.1
  have hl2:=Nat.le_of_ble_eq_true hlen.2
  subst hl1
  obtain⟨h1,⟨b',e',h2⟩,i,z,h3,h4,h5,h6,h7⟩:=hE.slice hT
  have hpos:=τ.size_pos
  have hmax:τ.size≤100:=Ty.size_le τ
  have hbig:parts.size * τ.size≤16777216:=Nat.le_trans (Nat.mul_le_mul hl2 hmax) (by decide)
  obtain⟨r,fp,h8,h9,h10,h11,h12⟩:=d6z (place:=fun i=>some (i * τ.size,τ.size)) h (fun _=>rfl) (l:=((Array.range (parts.size * τ.size)).map (fun j=>((if parts.size * τ.size=0 then #[] else z.cells:Array Value)[j % (if parts.size * τ.size=0 then #[] else z.cells:Array Value).size]!))).toList) hxs (a0g.of_parts (a0p h) _) (a1y hb) (by simp)
  have hxl:=d9l hxs
  simp only[List.length_map,Array.length_toList] at hxl
  rw[hxl] at h10
  simp only[Nat.zero_mul,List.take_zero,List.nil_append,Array.toArray_toList] at h8
  have hrun:(execOp a.eval o).run c.P w = .ok (.value (.slice (some ⟨w.heap.size,0,none⟩) parts.size parts.size)) (w.alloc (.cells r.toArray e)):=by
   have e2:(parts.map fun (i,x)=>(i,a.eval x)).toList=parts.toList.map fun p=>(p.1,a.eval p.2):=by simp
   have hno:¬ (parts.size * τ.size>2 ^ 24):=by omega
   simp only[execOp,hop,Instr.buildSlice,Sem.run_bind,run_underlying h1,Result.andThen_ok,hE.sizeOf h2,if_neg hno,Sem.run_pure]
   by_cases h0:parts.size * τ.size=0
   ·simp only[h0,if_true,Sem.run_bind,Sem.run_pure,Result.andThen_ok,e2] at h8 ⊢
    rw[h8]
    simp[newRow]
   ·simp only[h0,if_false,Sem.run_bind,zeroValue,typeInfo,run_program,Result.andThen_ok,h3,h6,Sem.run_pure,e2] at h8 ⊢
    rw[h8]
    simp[newRow]
  unfold Oper.wp
  rw[hrun]
  show ∃ G',Inv c G' _ (a.put o.dst _) _
  rw[hd]
  have hlt:∀ k∈fp,k<w.heap.size:=fun k hk=>e1k h (h12 k hk)
  have hrow:a0x (w.alloc (.cells r.toArray e)) (xs.map τ.toD) r fp:=a0x.keep _ h9 fun k hk=>heap_alloc_old w _ k (hlt k hk)
  refine Inv.built h (zs:=xs) (fp:=w.heap.size::fp) (l:=r) ((a5m w _).mono' fun _ k=>k.elim) ⟨_,_,some ⟨w.heap.size,0,none⟩,parts.size,rfl,by rw[hxl],by rw[hxl];omega,by simp only[maxLen];omega,by rw[hxl];omega, .inr ⟨w.heap.size,fp,e,rfl,rfl,heap_alloc_new w _,h10,hrow⟩⟩ ⟨_,_,_,rfl⟩ (List.nodup_cons.2 ⟨fun hh=>Nat.lt_irrefl _ (hlt _ hh),h11⟩) (fun k hk=>?_) hnone
  rcases List.mem_cons.1 hk with rfl|hk
  ·exact .inr ⟨Nat.le_refl _,by simp⟩
  ·exact .inl (h12 k hk)
 case h_2 T ad hop =>
  split at hq
  case h_2=>cases hq
  case h_1 q r id i sz hT hx =>
  split at hq
  case h_2=>cases hq
  case h_1 p xs hid =>
  split at hq
  case h_2=>cases hq
  case h_1 y z hb hy hz =>
  split at hq
  case h_2=>cases hq
  case h_1 hfd =>
  simp only[Option.some.injEq,Prod.mk.injEq] at hq
  obtain⟨rfl,rfl⟩:=hq
  simp only[Bool.and_eq_true] at hb hfd
  have hsz:=Nat.eq_of_beq_eq_true hb.1
  subst hsz
  have hp:=a0p h ad
  rw[hx] at hp
  obtain⟨_,b,n,cap,l,hη,hi,hp⟩:=hp
  obtain⟨G1,f1,b',e1,hcell,hlen,hI,hO,hnd,hF⟩:=h.moved hid hy hz hb.2 hvc hη hi
  simp only[Option.some.injEq,Addr.mk.injEq,and_true] at e1
  subst e1
  have hqs:q.size=p.size:=by
   have e:=Ow.length _ hO
   rw[show (q.toD z).size=q.size from Ty.size_toD (.st q) z] at e
   omega
  have hrun:(execOp a.eval o).run c.P w = .ok (.value (.agg ((l.drop (i * p.size)).take p.size).toArray)) w:=by
   simp only[execOp,hop,hp,Nat.add_zero,Sem.run_bind,b1i hE hT hcell (by rw[hlen];exact hqs.symm),Result.andThen_ok,Sem.run_pure]
   rfl
  unfold Oper.wp
  rw[hrun]
  show ∃ G',Inv c G' _ (a.put o.dst _) _
  rw[hd]
  have hfree:∀ e∈a1d (a0s d) (TV.cells ⟨.st q,z⟩),(s.noSubs.setTree id (.st p) (xs.set i y)).look e.1=none:=fun e he=>by
   have h0:(s.look e.1).isNone=true:=List.all_eq_true.1 hfd.1 e he
   have hne:e.1≠id:=fun hh=>by rw[hh,hid] at h0;cases h0
   rw[a4o,if_neg hne,a8k]
   show Option.map a0d.killSub (s.look e.1)=none
   cases hl:s.look e.1 with
   | none=>rfl
   | some o=>rw[hl] at h0;cases h0
  obtain⟨G2,lk',k1,k2,k3,k4,_⟩:=a0l.addVal (v:=⟨.st q,z⟩) (id:=a0s d) hI ⟨_,rfl,hO⟩ hnd hF hfree (a1y hfd.2) (fun j hj=>by
   cases hr:c.R j with
   | none=>rfl
   | some v=>have:=h.rng j v hr;unfold a0s at hj;omega)
  refine⟨G2,?_⟩
  have hlk:a0c.look { slots:=s.noSubs.slots.set d (a3j (a0s d) ⟨.st q,z⟩),objs:=a1d (a0s d) (q.cells z)++(s.noSubs.setTree id (.st p) (xs.set i y)).objs }=lk':=by
   funext j
   rw[k1 j]
   exact b3l _ _ j
  unfold Inv
  rw[hlk,show a0c.sl { slots:=s.noSubs.slots.set d (a3j (a0s d) ⟨.st q,z⟩),objs:=a1d (a0s d) (q.cells z)++(s.noSubs.setTree id (.st p) (xs.set i y)).objs }=a5y s.noSubs.slots.length s.noSubs.sl (some d) (a3j (a0s d) ⟨.st q,z⟩) from b1d s.noSubs.slots d _ _,
   show ({ slots:=s.noSubs.slots.set d (a3j (a0s d) ⟨.st q,z⟩),objs:=a1d (a0s d) (q.cells z)++(s.noSubs.setTree id (.st p) (xs.set i y)).objs }:a0c).slots.length=s.noSubs.slots.length from by simp]
  exact a0l.put k2 k4.toVR
 case h_3 cl hop =>
  split at hq
  case h_3=>cases hq
  case h_2 f hcal =>
   split at hq
   case h_1=>cases hq
   case h_2 fl _ _ =>
   split at hq
   case h_2=>cases hq
   case h_1 own ids ht =>
   split at hq
   case h_2=>cases hq
   case h_1 as hb has =>
   split at hq
   case h_2=>cases hq
   case h_1 pre res hc =>
   split at hq
   case h_2=>cases hq
   case h_1 hfd =>
   simp only[Option.some.injEq,Prod.mk.injEq] at hq
   obtain⟨rfl,rfl⟩:=hq
   simp only[Bool.and_eq_true,List.all_eq_true] at hfd
   have hfree:∀ p∈a0o (a0s d) res,(ids.foldl a0c.gone s).look p.1=none:=fun p hp=>by simpa using hfd.1 p hp
   have hdup:=a1y hfd.2
   obtain⟨hfn,hcall⟩:=hE.octr f as pre res hc hvc
   obtain⟨fps,t1,t2,t3,t4⟩:=b8f h ht (a1y hb) (a0g.of_ops (a0p h) _)
   have h1:Inv c G (ids.foldl a0c.gone s) a w:=b7j ids h
   have hF:∀ b,b∈fps.flatten→FrB c G (ids.foldl a0c.gone s).look w b:=fun b hb=>c9g h (t4 b hb)
   obtain⟨m1,m2⟩:=b6l hE h1 has t1 t2 (a0g.of_ops (a0p h1) _)
   generalize hs1:ids.foldl a0c.gone s=s1 at *
   unfold Oper.wp
   rw[a6h hop hcal rfl hfn]
   simp only[Oper.upon]
   refine (hcall w (SX G s1.look) _ fps.flatten ?_ m1 (.inr m2) t3 (fun b hb=>⟨(hF b hb).2.2.1,(hF b hb).not_sx⟩)).mono ?_
   ·exact h1.sxOk
   ·rintro e w' ⟨x,fp,rfl,hk,hO,hnd,hfp⟩
    have hI:=Inv.over h1 hF hk
    obtain⟨ys,hO',hvr⟩:=d0j (c:=c) (id:=a0s d) hO
    have hFr:Fr c G s1.look w' fp:=fun b hb=>by
     rcases hfp b hb with hi|⟨q1,q2⟩
     ·obtain⟨f1,f2,f3,f4,f5⟩:=hF b hi
      exact⟨f1,f2,Nat.lt_of_lt_of_le f3 hk.size,f4,f5⟩
     ·refine⟨.inl (Nat.le_trans h1.keep.size q1),fun hs=>?_,q2,fun i o' hi hbi=>?_,fun j τ zs hj hbj=>?_⟩
      ·have:=h1.sLt b hs;omega
      ·have:=(h1.place i o' b hi hbi).2.2;omega
      ·have:=(h1.trees.pl j τ zs b hj hbj).2.2.1;omega
    obtain⟨G',lk',k1,k2,k3,k4,_⟩:=hI.addVals (id:=a0s d) hO' hnd hFr hfree hdup (fun j hj=>by
     cases hr:c.R j with
     | none=>rfl
     | some v=>have:=h.rng j v hr;unfold a0s at hj;omega)
    refine⟨G',?_⟩
    have hlk:a0c.look { slots:=s1.slots.set d (a6p (a0s d) res),objs:=a0o (a0s d) res++s1.objs }=lk':=by
     funext i
     rw[k1 i]
     exact b3l _ _ i
    unfold Inv
    rw[hlk,hd,show a0c.sl { slots:=s1.slots.set d (a6p (a0s d) res),objs:=a0o (a0s d) res++s1.objs }=a5y s1.slots.length s1.sl (some d) (a6p (a0s d) res) from b1d s1.slots d _ _,
     show ({ slots:=s1.slots.set d (a6p (a0s d) res),objs:=a0o (a0s d) res++s1.objs }:a0c).slots.length=s1.slots.length from by simp]
    exact a0l.put k2 (hvr G' lk' k4)
  case h_1 hcal =>
  split at hq
  case h_2=>cases hq
  case h_1 T T' hTs =>
  split at hq
  case h_2=>cases hq
  case h_1 τ b e hTT hT =>
  have hTT:=Nat.eq_of_beq_eq_true hTT
  subst hTT
  split at hq
  case h_2=>cases hq
  case h_1 x y hargs =>
  split at hq
  case h_2=>cases hq
  case h_1 xs i ys j hx hy =>
  split at hq
  case h_2=>cases hq
  case h_1 hb hnone =>
  simp only[Option.some.injEq,Prod.mk.injEq] at hq
  obtain⟨rfl,rfl⟩:=hq
  obtain⟨v,z,e1,e2,e3⟩:=d4x h hargs
  have hb:=a1y hb
  rw[List.nodup_append] at hb
  obtain⟨n1,n2,n3⟩:=hb
  obtain⟨fx,o1,o2,o3⟩:=e9c h hx e2
  obtain⟨fy,p1,p2,p3⟩:=e9c h hy e3
  obtain⟨v',w',fp,l,k1,k2,k3,k4,k5,k6⟩:=e2g (c:=c) (w:=w) hE hT o1 p1 (fun k hk=>e1k h (o3 k hk)) (fun k hk=>e1k h (p3 k hk)) o2 p2
   (fun k hk hk'=>h.inf_apart (o3 k hk) (p3 k hk') fun x hx y hy=>n3 x hx y hy) hvc o.type
  have hTs':cl.argTypes = #[T,T]:=by rw[←Array.toArray_toList (xs:=cl.argTypes),hTs]
  have hxs':cl.args.map a.eval = #[v,z]:=by rw[←Array.toArray_toList (xs:=cl.args.map a.eval),Array.toList_map,e1]
  have hexec:(execOp a.eval o)=(do let d ←resolve a.eval cl o.type;invoke d.target d.args):=by simp[execOp,hop]
  have hex2:(execOp a.eval o).run c.P w=((Builtin.append_ #[T,T] o.type #[v,z]).run c.P w).andThen fun v w => .ok (.value v) w:=by
   rw[hexec]
   simp[resolve,hcal,invoke,builtin,hTs',hxs']
  unfold Oper.wp
  rw[hex2,k1]
  show ∃ G',Inv c G' _ (a.put o.dst _) _
  rw[hd]
  refine Inv.built h (zs:=xs++ys) (fp:=fp) (l:=l) (k6.mono' fun k hk=>(o3 k hk).mono fun i hi=>by simp[hi]) k2 k3 k4 (fun k hk=>?_) hnone
  rcases k5 k hk with hk|hk|hk
  ·exact .inl ((o3 k hk).mono fun i hi=>by simp[hi])
  ·exact .inl ((p3 k hk).mono fun i hi=>by simp[hi])
  ·exact .inr hk
end
end Go.Proofs.YtmdefiphdgcijaaDoor

/- The operations on memory that is wholly the call's own: what the abstract machine says of them, they do. -/
import Derived.Test.YtmdefiphdgcijaaDoorVmMark
set_option linter.unusedVariables false
set_option linter.unusedSimpArgs false
namespace Go.Proofs.YtmdefiphdgcijaaDoor
section
variable {c:Ctx} {G:Gh} {s:a0c} {a:Act} {w w':World}
theorem c5g(h:Inv c G s a w){o:Oper}{v:AV}{x:Value}{Q:Exit→Act→World→Prop}(hr:(execOp a.eval o).run c.P w = .ok (.value x) w)(hv:VR c G s.look w v x) :
  o.wp c.P a w (fun a' w'=>∃ G',Inv c G' (s.put o.dst v) a' w') Q:=by
 unfold Oper.wp
 rw[hr]
 exact⟨G,Inv.put h hv⟩
theorem c1f{η:Value}{τ:Ty}{xs:List τ.den}{fp:List Nat}(hT:a4l w η τ xs fp){a0:Option Addr}{n cap:Nat}{l:List Value}(hη:η = .tuple (.slice a0 n cap::l).toArray){i:Nat}(hi:i<n) :
  n=xs.length∧∃ b f t,a0=some ⟨b,0,none⟩∧fp=b::f∧w.heap[b]?=some (.cells l.toArray t (0,0))∧a0x w (xs.map τ.toD) l f:=by
 obtain⟨v0,l0,a1,cap1,h1,h2,h3,h4,h5,h6⟩:=hT
 rw[hη] at h1
 simp only[Value.tuple.injEq] at h1
 have h1:(Value.slice a0 n cap::l)=v0::l0:=congrArg Array.toList h1
 simp only[List.cons.injEq] at h1
 obtain⟨hq,hq2⟩:=h1
 subst hq2
 rw[h2] at hq
 simp only[Value.slice.injEq] at hq
 obtain⟨rfl,rfl,rfl⟩:=hq
 rcases h6 with ⟨rfl,_,_⟩|⟨b,f,t,q1,q2,q3,q4⟩
 ·simp at hi
 ·exact⟨rfl,b,f,t,q1,q2,q3,q4.2⟩
theorem d3f{t:Ty}{x:Value}(h:C1 c G s.look w (b3u t) x)(ht:t.agg=false):Ow w (t.toD t.zero) [x] []:=by
 cases t with
 | slice t' =>
  have h:x = .slice none 0 0:=h
  subst h
  exact⟨none,0,rfl,Nat.le_refl _,by simp[maxLen],Nat.zero_le _, .inl ⟨rfl,⟨rfl,rfl⟩,rfl⟩⟩
 | st s=>cases ht
 | mv t=>exact Ow.of_light (S:=G.S) _ rfl h.2
 | ptr=>exact Ow.of_light (S:=G.S) _ rfl h.2
 | int k=>exact Ow.of_light (S:=G.S) _ rfl h.2
 | bool=>exact Ow.of_light (S:=G.S) _ rfl h.2
 | str=>exact Ow.of_light (S:=G.S) _ rfl h.2
theorem e7n(s:a0h):∀ t∈s.ctys,t.agg=false:=fun t ht=>by
 rw[←a0h.cells_tys s s.zero] at ht
 obtain⟨u,hu,rfl⟩:=List.mem_map.1 ht
 exact c8m s _ u hu
theorem f0g{c:Ctx}{G:Gh}{s:a0c}{τ:Ty}{z:Value}(h:b7u τ z=true):Ow w (τ.toD τ.zero) z.cells.toList []:=by
 have h1:=a9k (c:=c) (G:=G) (lk:=s.look) (w:=w) h
 cases τ with
 | st st =>
  simp only[a4z] at h1
  show Ow w (st.toD st.zero) _ []
  rw[a0h.toD_cells]
  have hz:(st.cells st.zero).map TV.toD=st.ctys.map fun t=>t.toD t.zero:=by cases st<;>rfl
  rw[hz]
  have h2:=a0g.of_map _ h1
  have:∀ (ts:List Ty) (vs:List Value),a0g (fun t x=>Ow w (t.toD t.zero) [x] []) ts vs→a1t w (ts.map fun t=>t.toD t.zero) vs []:=by
   intro ts
   induction ts with
   | nil=>intro vs h;cases vs<;>first|exact⟨rfl,rfl⟩|cases h
   | cons t ts ih =>
    intro vs h
    cases vs with
    | nil=>cases h
    | cons v vs=>exact⟨v,vs,[],[],rfl,rfl,h.1,ih vs h.2⟩
  exact this _ _ (h2.imp fun t x ht hx=>d3f hx (e7n st t ht))
 | _ =>
  simp only[a4z] at h1
  match hc:z.cells.toList,h1 with
  | [x],h1=>exact d3f h1.1 rfl
theorem a0x.append0:∀ (ds:List D) {es:List D} {l m:List Value} {n:Nat},a0x w ds l []→(∀ d∈ds,d.size=n)→l.length=ds.length * n→a0x w es m []→a0x w (ds++es) (l++m) []
 | [],es,l,m,n,_,_,hl,h=>by
  have:l=[]:=List.eq_nil_of_length_eq_zero (by simpa using hl)
  subst this;simpa using h
 | d::ds,es,l,m,n,h,hn,hl,h'=>by
  obtain⟨cc,r,f1,f2,rfl,hf,h3,h4⟩:=h
  have hf:=(List.append_eq_nil_iff.1 hf.symm)
  obtain⟨rfl,rfl⟩:=hf
  have hc:cc.length=n:=by rw[Ow.length _ h3];exact hn d (by simp)
  refine⟨cc,r++m,[],[],by simp,rfl,h3,a0x.append0 ds h4 (fun d hd=>hn d (by simp[hd])) ?_ h'⟩
  simp only[List.length_append,List.length_cons,Nat.add_mul,Nat.one_mul] at hl
  omega
theorem a0x.more:∀ (ds:List D) {l:List Value} {fp:List Nat} (m:List Value),a0x w ds l fp→a0x w ds (l++m) fp
 | [],_,_,_,h=>h
 | d::ds,_,_,m,h=>by
  obtain⟨cc,r,f1,f2,rfl,hf,h3,h4⟩:=h
  exact⟨cc,r++m,f1,f2,by simp,hf,h3,a0x.more ds m h4⟩
theorem c9w{d:D}{z:Array Value}(h:Ow w d z.toList []):∀ k:Nat,a0x w (List.replicate k d) (madeCells z (k * z.size)).toList []
 | 0=>rfl
 | k+1=>by
  have hz:d.size=z.size:=by have:=Ow.length _ h;simpa using this.symm
  rw[c4s,List.replicate_succ']
  refine a0x.append0 (n:=z.size) _ (c9w h k) (fun e he=>by rw[List.eq_of_mem_replicate he];exact hz) (by simp[madeCells]) ⟨z.toList,[],[],[],by simp,rfl,h,rfl⟩
theorem d3v(h:Inv c G s a w)(id:Nat):Inv c G (s.gone id) a w:=by
 obtain⟨h1,_,_⟩:=h.clear id
 have hlk:(s.gone id).look=fun i=>if i=id then none else (s.sweep id).look i:=by
  funext i
  exact a3f id _ i
 unfold Inv
 show a0l c G (s.sweep id).sl (s.sweep id).slots.length (s.gone id).look a w
 rw[hlk,show (s.sweep id).slots.length=s.slots.length from by simp[a0c.sweep]]
 exact h1
theorem c2d(s:a0c)(id i:Nat):(s.gone id).look i=if i=id then none else (s.look i).map (a0d.kill id):=by
 show a0f (a0v id (s.sweep id).objs) i=_
 rw[a3f,←congrFun (a2z s id) i]
 rfl
theorem b7j:∀ (ids:List Nat) {s:a0c},Inv c G s a w→Inv c G (ids.foldl a0c.gone s) a w
 | [],_,h=>h
 | id::r,_,h=>b7j r (d3v h id)
theorem e5v(id:Nat){τ:Ty}{xs:List τ.den}{o:Option a0d}(h:o=some (.tree τ xs)):o.map (a0d.kill id)=some (.tree τ xs):=by subst h;rfl
theorem d5t:∀ (ids:List Nat) {s:a0c} {id:Nat} {τ:Ty} {xs:List τ.den},s.look id=some (.tree τ xs)→id∉ids→(ids.foldl a0c.gone s).look id=some (.tree τ xs)
 | [],_,_,_,_,h,_=>h
 | i::r,s,id,τ,xs,h,hn=>by
  refine d5t r ?_ (fun hh=>hn (by simp[hh]))
  rw[c2d,if_neg (fun e=>hn (by simp[e]))]
  exact e5v i h
theorem c9i:∀ (ids:List Nat) {s:a0c} {i:Nat} {o:a0d},(ids.foldl a0c.gone s).look i=some o→i∉ids∧∃ o',s.look i=some o'∧∀ τ xs,o = .tree τ xs→o' = .tree τ xs
 | [],s,i,o,h=>⟨by simp,o,h,fun _ _ e=>e⟩
 | id::r,s,i,o,h=>by
  obtain⟨h1,o',h2,h3⟩:=c9i r h
  rw[c2d] at h2
  split at h2
  ·cases h2
  ·rename_i hne
   simp only[Option.map_eq_some_iff] at h2
   obtain⟨p,hp,hk⟩:=h2
   refine⟨by simp[hne,h1],p,hp,fun τ xs e=>?_⟩
   have:=h3 τ xs e
   subst this
   have hm:(some p).map (a0d.kill id)=some (.tree τ xs):=by rw[←hk];rfl
   have:=a7r hm
   simpa using this
theorem c7s{o:Oper}{T:TypeId}{ad x:Operand}(hop:o.op = .store T ad x){w':World}{s':a0c}{G':Gh}(hr:(Instr.storeAt T (a.eval ad) (a.eval x)).run c.P w = .ok () w')(hI:Inv c G' (s'.put none .any) a w'){Q:Exit→Act→World→Prop} :
  o.wp c.P a w (fun a' w'=>∃ G',Inv c G' (s'.put o.dst .any) a' w') Q:=by
 unfold Oper.wp
 have:(execOp a.eval o).run c.P w = .ok .skip w':=by simp only[execOp,hop,Sem.run_bind,hr,Result.andThen_ok,Sem.run_pure]
 rw[this]
 exact⟨G',Inv.put (s:=s') hI trivial⟩
theorem d9k(hE:a0r c.P c.E)(h:Inv c G s a w){T:TypeId}{τ τ':Ty}{bt e:Nat}(hT:a0f c.E.ty T=some (τ,bt,e)){id i off:Nat}{xs:List τ'.den}(hid:s.look id=some (.tree τ' xs)){p x:Value}(hp:VR c G s.look w (.tptr id i off τ'.size) p)(hoff:off+τ.size≤τ'.size)
  (hxl:x.cells.toList.length=τ.size) (hone:∀ u∈x.cells.toList,u.oneCell'=true) {y:τ'.den}
  (hO:∀ (b:Nat) (f:List Nat) (l:List Value) (w':World),G.φ id=b::f→l.length≥i * τ'.size+τ'.size→a0x w (xs.map τ'.toD) l f→(∀ k,k≠b→w'.heap[k]?=w.heap[k]?) →
   ∃ f',a0x w' ((xs.set i y).map τ'.toD) (l.take (i * τ'.size+off)++x.cells.toList++l.drop (i * τ'.size+off+τ.size)) f'∧f'.Nodup∧b∉f'∧∀ k∈f',k∈f∨FrB c G s.look w k) :
  ∃ w' G',(Instr.storeAt T p x).run c.P w = .ok () w'∧Inv c G' (s.noSubs.setTree id τ' (xs.set i y)) a w':=by
 obtain⟨_,b,n,cap,l,hη,hi,rfl⟩:=hp
 obtain⟨rfl,b',f,t,e1,hfp,hh,hrow⟩:=c1f (h.trees.tr id τ' xs hid) hη hi
 simp only[Option.some.injEq,Addr.mk.injEq,and_true] at e1
 subst e1
 have hsz:∀ d∈xs.map τ'.toD,d.size=τ'.size:=by
  intro d hd
  obtain⟨z,_,rfl⟩:=List.mem_map.1 hd
  exact Ty.size_toD τ' z
 obtain⟨_,_,_,_,hlen,_,_⟩:=a0x.split (xs.map τ'.toD) i (τ'.toD (xs.getD i τ'.zero)) hrow hsz (by simp[List.getD,hi])
 have hrun:=c3j (c:=c) (l:=l) hE hT (o:=i * τ'.size+off) (x:=x) hh hxl hone (by omega)
 have hoth:∀ k,k≠b→(w.setRow b (l.take (i * τ'.size+off)++x.cells.toList++l.drop (i * τ'.size+off+τ.size)).toArray).heap[k]?=w.heap[k]?:=fun k hk=>b0g w hh k hk
 obtain⟨f',k1,k2,k3,k4⟩:=hO b f l _ hfp hlen hrow hoth
 have hnew:=setRow_heap w b l.toArray (l.take (i * τ'.size+off)++x.cells.toList++l.drop (i * τ'.size+off+τ.size)).toArray t (0,0) hh
 have hT':a4l (w.setRow b (l.take (i * τ'.size+off)++x.cells.toList++l.drop (i * τ'.size+off+τ.size)).toArray) (.tuple (.slice (some ⟨b,0,none⟩) xs.length cap::(l.take (i * τ'.size+off)++x.cells.toList++l.drop (i * τ'.size+off+τ.size))).toArray) τ' (xs.set i y) (b::f'):=by
  obtain⟨v0,l0,a1,cap1,h1,h2,h3,h4,h5,h6⟩:=h.trees.tr id τ' xs hid
  rw[hη] at h1
  simp only[Value.tuple.injEq] at h1
  have h1:(Value.slice (some ⟨b,0,none⟩) xs.length cap::l)=v0::l0:=congrArg Array.toList h1
  simp only[List.cons.injEq] at h1
  obtain⟨hq,hq2⟩:=h1
  rw[h2] at hq
  simp only[Value.slice.injEq] at hq
  obtain⟨rfl,_,rfl⟩:=hq
  have hcap:l.length=cap * τ'.size:=by
   rw[hq2]
   rcases h6 with ⟨_,h',_⟩|⟨_,_,_,_,_,_,k0,_⟩
   ·cases h'.1
   ·exact k0
  exact⟨_,_,_,cap,rfl,by simp,by simpa using h3,h4,by simpa using h5, .inr ⟨b,f',t,rfl,rfl,hnew,by rw[←hcap];simp only[List.length_append,List.length_take,List.length_drop,hxl];omega,k1⟩⟩
 have hpl:=h.trees.pl id τ' xs
 have:=h.turned (w':=w.setRow b (l.take (i * τ'.size+off)++x.cells.toList++l.drop (i * τ'.size+off+τ.size)).toArray) (t:=s.noSubs.setTree id τ' (xs.set i y)) (F:=fun k=>k=b)
  (A:=[(id,(.tuple (.slice (some ⟨b,0,none⟩) xs.length cap::(l.take (i * τ'.size+off)++x.cells.toList++l.drop (i * τ'.size+off+τ.size))).toArray,b::f', .tree τ' (xs.set i y)))]) ?_ ?_ ?_ (by simp)
  ⟨rfl,rfl,rfl,by simp[World.setRow],fun k hk hne=>hoth k hne⟩ (fun k hk=>⟨_,List.mem_singleton.2 rfl,by rw[hfp,hk];simp⟩) rfl (fun j=>?_) (d:=none) (v := .any) (x:=undef) (fun _ _=>trivial)
 ·obtain⟨G',hG⟩:=this
  exact⟨_,G',hrun,hG⟩
 ·intro p hp
  simp only[List.mem_singleton] at hp
  subst hp
  exact⟨τ',xs,_,_,l,_,hid,rfl,hη,rfl,hT',List.nodup_cons.2 ⟨k3,k2⟩⟩
 ·intro p hp k hk
  simp only[List.mem_singleton] at hp
  subst hp
  rcases List.mem_cons.1 hk with rfl|hk
  ·exact .inl ⟨_,List.mem_singleton.2 rfl,by rw[hfp];simp⟩
  ·rcases k4 k hk with hk|hk
   ·exact .inl ⟨_,List.mem_singleton.2 rfl,by rw[hfp];simp[hk]⟩
   ·exact .inr (hk.grow (by simp[World.setRow]))
 ·intro p hp q hq k _ _
  simp only[List.mem_singleton] at hp hq
  rw[hp,hq]
 ·rw[d1x,a4o]
theorem OwV.cells{w:World}{τ:Ty}{y:τ.den}{x:Value}{fp:List Nat}(h:OwV w ⟨τ,y⟩ x fp):Ow w (τ.toD y) x.cells.toList fp:=by
 cases τ with
 | st s =>
  obtain⟨cs,rfl,h⟩:=h
  exact h
 | slice t =>
  obtain⟨a',cap,h1,_⟩:=id h
  simp only[List.cons.injEq,and_true] at h1
  subst h1
  exact h
 | mv t =>
  have h1:=Ow.length _ (show Ow w (mvD t.size t.toD y) [x] fp from h)
  cases hy:(show Option (List t.den) from y) with
  | none =>
   have e:y=(none:Option (List t.den)):=hy
   subst e
   obtain⟨⟨a',n,m,h1⟩,_⟩:=id h
   simp only[List.cons.injEq,and_true] at h1
   subst h1
   exact h
  | some l =>
   have e:y=(some l:Option (List t.den)):=hy
   subst e
   obtain⟨a',cap,h1,_⟩:=id h
   simp only[List.cons.injEq,and_true] at h1
   subst h1
   exact h
 | ptr=>obtain⟨⟨p,h1⟩,_⟩:=id h;simp only[List.cons.injEq,and_true] at h1;subst h1;exact h
 | int k=>obtain⟨⟨h1,_⟩,_⟩:=id h;simp only[List.cons.injEq,and_true] at h1;subst h1;exact h
 | bool=>have h1:=h.1;simp only[List.cons.injEq,and_true] at h1;subst h1;exact h
 | str=>obtain⟨⟨z,h1,_⟩,_⟩:=id h;simp only[List.cons.injEq,and_true] at h1;subst h1;exact h
theorem e0b(l:List Value)(k:Nat)(v:Value)(h:k<l.length):l.take k++[v]++l.drop (k+1)=l.set k v:=by
 rw[List.set_eq_take_append_cons_drop,if_pos h,List.append_assoc];rfl
theorem c9g(h:Inv c G s a w){ids:List Nat}{b:Nat}(hb:InF G s.look ids b):FrB c G (ids.foldl a0c.gone s).look w b:=by
 obtain⟨id,hi,hq⟩:=hb
 have hp:(c.w0.heap.size≤b∨c.X b)∧¬ G.S b∧b<w.heap.size:=by
  rcases hq with ⟨τ,xs,q1,q2⟩|⟨e,τ,xs,q1,q2⟩
  ·obtain⟨p1,p2,p3,_⟩:=h.trees.pl id τ xs b q1 q2;exact⟨p1,p2,p3⟩
  ·obtain⟨p1,p2,p3⟩:=h.place id _ b q1 q2;exact⟨p1,p2,p3⟩
 refine⟨hp.1,hp.2.1,hp.2.2,fun i o hio hbi=>?_,fun j τ xs hj hbj=>?_⟩
 ·obtain⟨h1,o',h2,_⟩:=c9i ids hio
  rcases hq with ⟨τ,xs,q1,q2⟩|⟨e,τ,xs,q1,q2⟩
  ·exact (h.trees.pl id τ xs b q1 q2).2.2.2 i o' h2 hbi
  ·have:=h.apart i id o' _ b h2 q1 hbi q2
   subst this;exact h1 hi
 ·obtain⟨h1,o',h2,h3⟩:=c9i ids hj
  have:=h3 τ xs rfl
  subst this
  rcases hq with ⟨τ',xs',q1,q2⟩|⟨e,τ',xs',q1,q2⟩
  ·have:=h.trees.ap j id _ _ _ _ b h2 q1 hbj q2
   subst this;exact h1 hi
  ·exact (h.trees.pl j τ xs b h2 hbj).2.2.2 id _ q1 q2
theorem d4x{l:List Operand}{u v:AV}(h:Inv c G s a w)(hl:l.map s.eval=[u,v]):∃ x y,l.map a.eval=[x,y]∧VR c G s.look w u x∧VR c G s.look w v y:=by
 have:=a0g.of_ops (a0p h) l
 rw[hl] at this
 match hx:l.map a.eval,this with
 | [x,y],hh=>exact⟨x,y,rfl,hh.1,hh.2.1⟩
theorem e6i(hE:a0r c.P c.E)(h:Inv c G s a w){o:Oper}{vc:Vc}{s':a0c}(hq:oop c.E s o=some (vc,s'))(hvc:vc.ok){Q:Exit→Act→World→Prop} :
  o.wp c.P a w (fun a' w'=>∃ G',Inv c G' s' a' w') Q:=by
 unfold oop at hq
 split at hq
 case h_1 T x ix hop =>
  split at hq
  case h_2=>cases hq
  case h_1 τ r hT =>
  split at hq
  case h_2=>cases hq
  case h_1 k i id hi hx =>
  split at hq
  case h_2=>cases hq
  case h_1 τ' xs hid =>
  split at hq
  case h_2=>cases hq
  case h_1 hτ =>
  have hsz:τ'.size=τ.size:=by
   simp only[Bool.or_eq_true] at hτ
   rcases hτ with hτ|hτ
   ·rw[of_decide_eq_true hτ]
   ·unfold Ty.mvOf at hτ
    split at hτ
    ·rename_i p q
     have e:=congrArg List.length (of_decide_eq_true hτ)
     rw[List.length_map] at e
     have e1:=congrArg List.length (a0h.cells_tys p p.zero)
     have e2:=congrArg List.length (a0h.cells_tys q q.zero)
     rw[List.length_map,a0h.cells_length] at e1 e2
     simp only[Ty.size];omega
    ·cases hτ
  simp only[Option.some.injEq,Prod.mk.injEq] at hq
  obtain⟨rfl,rfl⟩:=hq
  have hix:=a0p h ix
  rw[hi] at hix
  obtain⟨hix,_⟩:=hix
  simp only[List.cons.injEq,and_true] at hix
  have hv:=a0p h x
  rw[hx] at hv
  obtain⟨hit,l,hη,ad,m,cap,hsl⟩:=hv
  obtain⟨h0,h1⟩:=hvc
  have hTr:=h.trees.tr id τ' xs hid
  rw[hsl] at hη
  have hm:m=xs.length:=by
   obtain⟨v0,l0,a1,cap1,q1,q2,_⟩:=hTr
   rw[hη] at q1
   simp only[Value.tuple.injEq] at q1
   have q1:(Value.slice ad m cap::l)=v0::l0:=congrArg Array.toList q1
   simp only[List.cons.injEq] at q1
   rw[q2] at q1
   simp only[Value.slice.injEq] at q1
   exact q1.1.2.1
  subst hm
  obtain⟨_,b,f,t,e1,_⟩:=c1f hTr hη (i:=i.toNat) (by omega)
  subst e1
  refine c5g h (x := .pointer (some ⟨b,0+i.toNat * τ.size,none⟩)) ?_ ⟨hit,b,_,cap,l,hη,by omega,by simp⟩
  simp only[execOp,hop,hsl,hix,Sem.run_bind,b2u hE hT h0 h1,Result.andThen_ok,Sem.run_pure]
 case h_2 T x i hop =>
  split at hq
  case h_2=>cases hq
  case h_1 st r hT =>
  split at hq
  case h_2=>cases hq
  case h_1 id k off sz hx =>
  split at hq
  case h_2=>cases hq
  case h_1 hlt =>
  simp only[Option.some.injEq,Prod.mk.injEq] at hq
  obtain⟨rfl,rfl⟩:=hq
  have hlt:i<st.ftys.length:=by simpa [Nat.blt_eq] using hlt
  have hv:=a0p h x
  rw[hx] at hv
  obtain⟨h1,b,m,cap,l,h2,h3,h4⟩:=hv
  refine c5g h (x := .pointer (some ⟨b,k * sz+(off+st.offs i),none⟩)) ?_ ⟨h1,b,m,cap,l,h2,h3,rfl⟩
  simp only[execOp,hop,h4,Sem.run_bind,a8l hE hT hlt,Result.andThen_ok,Sem.run_pure,Nat.add_assoc]
 case h_3 T ad hop =>
  split at hq
  case h_2=>cases hq
  case h_1 τ r hT =>
  split at hq
  case h_2=>cases hq
  case h_1 id i off sz hx =>
  split at hq
  case h_2=>cases hq
  case h_1 τ' xs hid =>
  split at hq
  case h_2=>cases hq
  case h_1 u hu hb =>
  simp only[Bool.and_eq_true,Bool.not_eq_true'] at hb
  obtain⟨hb1,hb2,hb3⟩:=hb
  have hb1:=Nat.eq_of_beq_eq_true hb1
  subst hb1
  have hb3:off<τ'.size:=by simpa [Nat.blt_eq] using hb3
  have hv:=a0p h ad
  rw[hx] at hv
  obtain⟨h1,b,m,cap,l,h2,h3,h4⟩:=hv
  obtain⟨rfl,v,f1,p1,p2,_⟩:=d9n (h.trees.tr id τ' xs hid) (h.trees.nd id τ' xs hid) h2 h3 hu hb2 hb3
  obtain⟨_,b',f,t,e1,_,hh,_⟩:=c1f (h.trees.tr id τ' xs hid) h2 h3
  simp only[Option.some.injEq,Addr.mk.injEq,and_true] at e1
  subst e1
  have hcell:a1x w b (i * τ'.size+off) [v]:=fun j z hj=>by
   cases j with
   | zero =>
    simp at hj
    subst hj
    simp[World.cell?,hh,p1]
   | succ j=>simp at hj
  have hs1:τ.size=1:=Ty.size_of_not_agg hb2
  have hrun:(execOp a.eval o).run c.P w = .ok (.value (mkV τ [v])) w:=by
   simp only[execOp,hop,h4,Sem.run_bind,b1i hE hT hcell (by rw[hs1];rfl),Result.andThen_ok,Sem.run_pure]
  have hmk:mkV τ [v]=v:=by cases τ<;>first|rfl|cases hb2
  rw[hmk] at hrun
  have hut:u.τ=τ:=by
   unfold TV.part at hu
   split at hu
   ·rename_i hbb
    simp only[Bool.and_eq_true] at hbb
    simp only[Option.some.injEq] at hu
    rw[←hu];exact of_decide_eq_true hbb.2
   ·split at hu
    ·split at hu
     ·rename_i hd
      simp only[Option.some.injEq] at hu
      rw[←hu];exact of_decide_eq_true hd
     ·cases hu
    ·cases hu
  split at hq
  case h_1 hsc =>
   simp only[Option.some.injEq,Prod.mk.injEq] at hq
   obtain⟨rfl,rfl⟩:=hq
   refine c5g h hrun ?_
   obtain⟨τu,yu⟩:=u
   have hut:τu=τ:=hut
   subst hut
   have hl:(Ty.toD τu yu).light=true:=b5k hsc yu
   have hr:Rd w G.S (Ty.toD τu yu) [v]:=by
    cases τu with
    | int k=>exact p2.1
    | bool=>exact p2.1
    | str=>exact p2.1
    | slice t=>cases hsc
    | mv t=>cases hsc
    | ptr=>exact p2.1
    | st s=>cases hsc
   cases τu with
   | mv t=>cases hsc
   | st s=>cases hsc
   | slice t=>cases hsc
   | _=>exact hr
  case h_2 hsc =>
   simp only[Option.some.injEq,Prod.mk.injEq] at hq
   obtain⟨rfl,rfl⟩:=hq
   refine c5g h hrun ⟨h1,_,_,cap,l,h2,h3,p1,?_⟩
   obtain⟨τu,yu⟩:=u
   have hut:τu=τ:=hut
   subst hut
   cases τu with
   | slice t =>
    obtain⟨a',cap',q,_⟩:=p2
    simp only[List.cons.injEq,and_true] at q
    exact⟨_,_,_,q⟩
   | st s=>cases hb2
   | mv t =>
    cases hy:(show Option (List t.den) from yu) with
    | none =>
     have e:yu=(none:Option (List t.den)):=hy
     subst e
     obtain⟨⟨a',n,m,q⟩,_⟩:=p2
     simp only[List.cons.injEq,and_true] at q
     exact⟨_,_,_,q⟩
    | some l =>
     have e:yu=(some l:Option (List t.den)):=hy
     subst e
     obtain⟨a',cap',q,_⟩:=p2
     simp only[List.cons.injEq,and_true] at q
     exact⟨_,_,_,q⟩
   | int k=>cases hsc
   | bool=>cases hsc
   | str=>cases hsc
   | ptr=>cases hsc
 case h_4 T ad x hop =>
  split at hq
  case h_2=>cases hq
  case h_1 τ r hT =>
  split at hq
  case h_2=>cases hq
  case h_1 id i off sz hx =>
  split at hq
  case h_2=>cases hq
  case h_1 τ' xs hid =>
  split at hq
  case h_2=>cases hq
  case h_1 hb =>
  simp only[Bool.and_eq_true] at hb
  obtain⟨hb1,hb3⟩:=hb
  have hb1:=Nat.eq_of_beq_eq_true hb1
  subst hb1
  have hb3:off<τ'.size:=by simpa [Nat.blt_eq] using hb3
  have hp:=a0p h ad
  rw[hx] at hp
  have hxv:=a0p h x
  have hin:i<xs.length:=by
   obtain⟨_,b,m,cap,l,h2,h3,_⟩:=hp
   obtain⟨h4,_⟩:=c1f (h.trees.tr id τ' xs hid) h2 h3
   omega
  split at hq
  case h_1 hsc =>
   split at hq
   case h_2=>cases hq
   case h_1 u j hu =>
   split at hq
   case h_2=>cases hq
   case h_1 u0 y hu0 hy =>
   simp only[Option.some.injEq,Prod.mk.injEq] at hq
   obtain⟨rfl,rfl⟩:=hq
   have hagg:τ.agg=false:=by cases τ<;>first|rfl|cases hsc
   have hs1:τ.size=1:=Ty.size_of_not_agg hagg
   have hcell:(a.eval x).cells.toList=[a.eval x]∧(a.eval x).oneCell'=true∧Ow w (τ.toD u) [a.eval x] []:=by
    have hc:C1 c G s.look w (s.eval x) (a.eval x)∧(s.eval x).cell=true:=by
     have hcc:(s.eval x).cell=true:=by
      revert hu
      cases hev:s.eval x with
      | imm v =>
       intro hu
       simp only[a2i] at hu
       split at hu
       ·rename_i hy'
        have e:=TV.as_some hy'
        subst e
        cases τ<;>first|rfl|cases hagg
       ·cases hu
      | nil=>intro hu;cases τ<;>first|(cases hsc;done)|(cases hu;done)
      | tree id=>intro hu;simp[a2i] at hu
      | row id=>intro hu;simp[a2i] at hu
      | _=>intro hu;cases hu
     exact⟨hxv.toC1 hcc,hcc⟩
    obtain⟨q1,q2⟩:=hc.1.leaf hc.2
    refine⟨by rw[q2],q1,?_⟩
    revert hu
    have hc1:=hc.1
    revert hc1
    cases s.eval x with
    | imm v =>
     intro hc1 hu
     simp only[a2i] at hu
     split at hu
     ·rename_i hsc' hy'
      have e:=TV.as_some hy'
      subst e
      simp only[Option.some.injEq,Prod.mk.injEq] at hu
      rw[←hu.1]
      exact Ow.of_light (S:=G.S) _ (b5k hsc' _) hc1.2
     ·cases hu
    | nil=>intro _ hu;cases τ<;>first|(cases hsc;done)|(cases hu;done)
    | tree id=>intro _ hu;simp[a2i] at hu
    | row id=>intro _ hu;simp[a2i] at hu
    | _=>intro _ hu;cases hu
   obtain⟨c1,c2,c3⟩:=hcell
   obtain⟨w',G',k1,k2⟩:=d9k hE h hT hid hp (y:=y) (x:=a.eval x) (by omega) (by rw[c1,hs1];rfl) (by rw[c1];simpa using c2) (fun b f l w' hφ hlen hrow hoth=>by
    have hsz:∀ d∈xs.map τ'.toD,d.size=τ'.size:=by
     intro d hd
     obtain⟨z,_,rfl⟩:=List.mem_map.1 hd
     exact Ty.size_toD τ' z
    have hnd:=h.trees.nd id τ' xs hid
    rw[hφ,List.nodup_cons] at hnd
    obtain⟨hbf,hnf⟩:=hnd
    have hkeep:∀ k∈f,w'.heap[k]?=w.heap[k]?:=fun k hk=>hoth k fun e=>hbf (e ▸ hk)
    obtain⟨g0,g1,g2,rfl,_,m1,m2⟩:=a0x.split (xs.map τ'.toD) i (τ'.toD (xs.getD i τ'.zero)) hrow hsz (by simp[List.getD,hin])
    obtain⟨v,p0,p1,p2,rfl,q1,q2,q3⟩:=d6r hu0 hagg m1
    have hy2:=q3 w' ⟨τ,u⟩ y (a.eval x) [] hy (fun k hk=>hkeep k (by simp at hk ⊢;rcases hk with hk|hk<;>simp[hk])) (c3.keep _ (by simp))
    have hr:=m2 w' (τ'.toD y) _ (p0++[]++p2) (fun k hk=>hkeep k (by simp at hk ⊢;rcases hk with hk|hk<;>simp[hk])) (by simp only[List.length_set,List.length_take,List.length_drop];omega) hy2
    rw[e3d l _ _ _ _ hb3 hlen,←List.map_set] at hr
    refine⟨_,by rw[c1,hs1,e0b _ _ _ (by omega)];exact hr,?_,fun hk=>hbf ?_,fun k hk => .inl ?_⟩
    ·refine b9b (f1:=p0++p1++p2) hnf (b9b (f1:=p1) ?_ List.nodup_nil (by simp)) (fun k hk => .inl (by simp at hk ⊢;rcases hk with hk|hk<;>simp[hk]))
     rw[List.nodup_append,List.nodup_append] at hnf
     exact hnf.1.2.1
    ·simp at hk ⊢;rcases hk with hk|hk|hk|hk<;>simp[hk]
    ·simp at hk ⊢;rcases hk with hk|hk|hk|hk<;>simp[hk])
   exact c7s hop k1 k2
  case h_2 hsc =>
   split at hq
   case h_2=>cases hq
   case h_1 y ids hoff ht =>
   split at hq
   case h_2=>cases hq
   case h_1 y' hnd hy' =>
   simp only[Option.some.injEq,Prod.mk.injEq] at hq
   obtain⟨rfl,rfl⟩:=hq
   have hoff:=Nat.eq_of_beq_eq_true hoff
   subst hoff
   have e:=TV.as_some hy'
   have et:τ=τ':=congrArg TV.τ e
   subst et
   cases e
   have hnd:=a1y hnd
   rw[List.nodup_cons] at hnd
   obtain⟨hidn,hidsnd⟩:=hnd
   obtain⟨fq,o1,o2,o3⟩:=b0b h ht hxv hidsnd
   have hcs:=OwV.cells o1
   have hlen:=Ow.length _ hcs
   rw[Ty.size_toD] at hlen
   have h1:=b7j ids h
   have hid1:=d5t ids hid hidn
   obtain⟨_,b0,m0,cap0,l0,hη0,hi0,hp0⟩:=hp
   obtain⟨w',G',k1,k2⟩:=d9k hE h1 hT hid1 (i:=i) (off:=0) (p:=a.eval ad) ⟨by rw[hid1];rfl,b0,m0,cap0,l0,hη0,hi0,hp0⟩ (y:=y) (x:=a.eval x) (by omega) hlen
    (Rd.oneCells (S:=fun b=>b∈fq) (x:=y) (Ow.rd _ hcs fun b hb=>hb)) (fun b f l w' hφ hlenl hrow hoth=>by
    have hsz:∀ d∈xs.map τ.toD,d.size=τ.size:=by
     intro d hd
     obtain⟨z,_,rfl⟩:=List.mem_map.1 hd
     exact Ty.size_toD τ z
    have hnd':=h.trees.nd id τ xs hid
    rw[hφ,List.nodup_cons] at hnd'
    obtain⟨hbf,hnf⟩:=hnd'
    have hkeep:∀ k∈f,w'.heap[k]?=w.heap[k]?:=fun k hk=>hoth k fun e=>hbf (e ▸ hk)
    have hdis:∀ k∈fq,k∉b::f:=fun k hk hk'=>by
     refine h.inf_apart (o3 k hk) (j:=[id]) ⟨id,by simp, .inl ⟨τ,xs,hid,by rw[hφ];exact hk'⟩⟩ fun x1 hx1 y1 hy1 e=>?_
     simp only[List.mem_singleton] at hy1
     exact hidn (by rw[←hy1,←e];exact hx1)
    obtain⟨g0,g1,g2,rfl,_,m1,m2⟩:=a0x.split (xs.map τ.toD) i (τ.toD (xs.getD i τ.zero)) hrow hsz (by simp[List.getD,hin])
    have hr:=m2 w' (τ.toD y) (a.eval x).cells.toList fq (fun k hk=>hkeep k (by simp at hk ⊢;rcases hk with hk|hk<;>simp[hk])) hlen (hcs.keep _ fun k hk=>hoth k fun e=>hdis k hk (by simp[e]))
    rw[←List.map_set] at hr
    refine⟨g0++fq++g2,by rw[Nat.add_zero];exact hr,?_,fun hk=>?_,fun k hk=>?_⟩
    ·rw[List.nodup_append,List.nodup_append] at hnf
     obtain⟨⟨n1,n2,n3⟩,n4,n5⟩:=hnf
     refine a3i (a3i n1 o2 fun k hk hk'=>hdis k hk' (by simp[hk])) n4 fun k hk hk'=>?_
     rcases List.mem_append.1 hk with hk|hk
     ·exact n5 k (List.mem_append.2 (.inl hk)) k hk' rfl
     ·exact hdis k hk (by simp[hk'])
    ·rcases List.mem_append.1 hk with hk|hk
     ·rcases List.mem_append.1 hk with hk|hk
      ·exact hbf (by simp[hk])
      ·exact hdis b hk (by simp)
     ·exact hbf (by simp[hk])
    ·rcases List.mem_append.1 hk with hk|hk
     ·rcases List.mem_append.1 hk with hk|hk
      ·exact .inl (by simp[hk])
      ·exact .inr (c9g h (o3 k hk))
     ·exact .inl (by simp[hk]))
   exact c7s hop k1 k2
 case h_5 T l cc hop =>
  split at hq
  case h_2=>cases hq
  case h_1 d τ b e hd hT =>
  split at hq
  case h_2=>cases hq
  case h_1 hown =>
  have hd50:d<50:=by
   simp only[Bool.and_eq_true] at hown
   simpa [Nat.blt_eq] using hown.2
  split at hq
  case h_2=>cases hq
  case h_1 n m hn hm =>
  simp only[Option.some.injEq,Prod.mk.injEq] at hq
  obtain⟨rfl,rfl⟩:=hq
  have hl:=a0p h l
  have hc:=a0p h cc
  rw[hn] at hl
  rw[hm] at hc
  obtain⟨hl,_⟩:=hl
  obtain⟨hc,_⟩:=hc
  simp only[List.cons.injEq,and_true] at hl hc
  obtain⟨v1,v2,v3,v4⟩:=d6h hvc
  obtain⟨h1,_,i,z,h3,h4,h5,h6,h7⟩:=hE.slice hT
  have hzo:=f0g (c:=c) (G:=G) (s:=s) (w:=w.alloc (.cells (madeCells z.cells (m.toNat * i.size)) e)) h7
  have hzl:=Ow.length _ hzo
  rw[Ty.size_toD,Array.length_toList] at hzl
  have hr:=run_make (P:=c.P) w T e i z h1 h3 h6 .i64 .i64 n m v1 v2 (by rw[h5];omega) (by omega)
  have hI:=a0l.alloc (d3v h d) (.cells (madeCells z.cells (m.toNat * i.size)) e)
  have hnone:(s.gone d).look d=none:=by rw[c2d,if_pos rfl]
  obtain⟨r1,r2⟩:=hI.noref hnone
  have hrow:a0x (w.alloc (.cells (madeCells z.cells (m.toNat * i.size)) e)) ((List.replicate n.toNat τ.zero).map τ.toD) (madeCells z.cells (m.toNat * i.size)).toList []:=by
   rw[List.map_replicate]
   have hle:n.toNat * z.cells.size≤m.toNat * i.size:=by rw[h4,hzl];exact Nat.mul_le_mul_right _ (by omega)
   have:=a0x.more _ ((madeCells z.cells (m.toNat * i.size)).toList.drop (n.toNat * z.cells.size)) (c9w hzo n.toNat)
   rwa [←c4t _ _ _ hle,List.take_append_drop] at this
  have hT':a4l (w.alloc (.cells (madeCells z.cells (m.toNat * i.size)) e)) (.tuple (.slice (some ⟨w.heap.size,0,none⟩) n.toNat m.toNat::(madeCells z.cells (m.toNat * i.size)).toList).toArray) τ (List.replicate n.toNat τ.zero) [w.heap.size] :=
   ⟨_,_,some ⟨w.heap.size,0,none⟩,m.toNat,rfl,by simp,by simp;omega,by simp only[maxLen];omega,by simp;omega, .inr ⟨w.heap.size,[],e,rfl,rfl,by simpa using heap_alloc_new w (.cells (madeCells z.cells (m.toNat * i.size)) e),by simp[madeCells,h4],hrow⟩⟩
  have hN:=hI.newTree d τ (List.replicate n.toNat τ.zero) _ [w.heap.size] hnone r1 r2 (by
   cases hr:c.R d with
   | none=>rfl
   | some v=>exact absurd (h.rng d v hr).1 (Nat.not_le.2 hd50)) hT' (by simp) (fun k hk=>by
   simp only[List.mem_singleton] at hk
   subst hk
   have hg:=d3v h d
   refine⟨.inl h.keep.size,fun hs=>Nat.lt_irrefl _ (h.sLt _ hs),by simp,fun i o hio hbi=>?_,fun j τ2 xs2 hj hbj=>?_⟩
   ·exact Nat.lt_irrefl _ (hg.place i o _ hio hbi).2.2
   ·exact Nat.lt_irrefl _ (hg.trees.pl j τ2 xs2 _ hj hbj).2.2.1)
  unfold Oper.wp
  have hrun:(execOp a.eval o).run c.P w = .ok (.value (.slice (some ⟨w.heap.size,0,none⟩) n.toNat m.toNat)) (w.alloc (.cells (madeCells z.cells (m.toNat * i.size)) e)):=by
   simp only[execOp,hop,hl,hc,Sem.run_bind,hr,Result.andThen_ok,Sem.run_pure]
  rw[hrun]
  have key:=a0l.put (d:=some d) (v := .tree d) (x := .slice (some ⟨w.heap.size,0,none⟩) n.toNat m.toNat) hN ⟨by simp[a1i],_,by simp;rfl,_,_,_,rfl⟩
  have hlk:a0c.look { slots:=(s.gone d).slots.set d (.tree d),objs:=(d, .tree τ (List.replicate n.toNat τ.zero))::(s.gone d).objs }=fun i=>if i=d then some (.tree τ (List.replicate n.toNat τ.zero)) else (s.gone d).look i:=by
   funext i
   exact a2j _ _ _ _
  have conv:∀ G',a0l c G' (a5y (s.gone d).slots.length (s.gone d).sl (some d) (.tree d)) (s.gone d).slots.length (fun i=>if i=d then some (.tree τ (List.replicate n.toNat τ.zero)) else (s.gone d).look i) (a.put (some d) (.slice (some ⟨w.heap.size,0,none⟩) n.toNat m.toNat)) (w.alloc (.cells (madeCells z.cells (m.toNat * i.size)) e))→Inv c G' { slots:=(s.gone d).slots.set d (.tree d),objs:=(d, .tree τ (List.replicate n.toNat τ.zero))::(s.gone d).objs } (a.put o.dst (.slice (some ⟨w.heap.size,0,none⟩) n.toNat m.toNat)) (w.alloc (.cells (madeCells z.cells (m.toNat * i.size)) e)):=by
   intro G' hh
   unfold Inv
   rw[hlk,hd,show a0c.sl { slots:=(s.gone d).slots.set d (.tree d),objs:=(d, .tree τ (List.replicate n.toNat τ.zero))::(s.gone d).objs }=a5y (s.gone d).slots.length (s.gone d).sl (some d) (.tree d) from b1d _ d _ _,
    show ({ slots:=(s.gone d).slots.set d (.tree d),objs:=(d, .tree τ (List.replicate n.toNat τ.zero))::(s.gone d).objs }:a0c).slots.length=(s.gone d).slots.length from by simp]
   exact hh
  exact⟨_,conv _ key⟩
 case h_6 cl hop =>
  split at hq
  case h_1 hcal =>
   split at hq
   case h_2=>cases hq
   case h_1 T id hTs hvs =>
   split at hq
   case h_2=>cases hq
   case h_1 t r _ τ xs hT hid =>
   simp only[Option.some.injEq,Prod.mk.injEq] at hq
   obtain⟨rfl,rfl⟩:=hq
   have hargs:=a0g.of_ops (a0p h) cl.args.toList
   rw[hvs] at hargs
   match hxs:cl.args.toList.map a.eval,hargs with
   | [x],hargs =>
    obtain⟨_,l,hη,ad,m,cap,hsl⟩:=hargs.1
    have hm:m=xs.length∧xs.length≤140737488355328:=by
     obtain⟨v0,l0,a1,cap1,q1,q2,_,_,q5,_⟩:=h.trees.tr id τ xs hid
     rw[hη,hsl] at q1
     simp only[Value.tuple.injEq] at q1
     have q1:(Value.slice ad m cap::l)=v0::l0:=congrArg Array.toList q1
     simp only[List.cons.injEq] at q1
     rw[q2] at q1
     simp only[Value.slice.injEq] at q1
     exact⟨q1.1.2.1,q5⟩
    obtain⟨rfl,hmx⟩:=hm
    have hTs':cl.argTypes = #[T]:=by rw[←Array.toArray_toList (xs:=cl.argTypes),hTs]
    have hxs':cl.args.map a.eval = #[x]:=by rw[←Array.toArray_toList (xs:=cl.args.map a.eval),Array.toList_map,hxs]
    have hexec:(execOp a.eval o)=(do let d ←resolve a.eval cl o.type;invoke d.target d.args):=by simp[execOp,hop]
    have hex2:(execOp a.eval o).run c.P w=((Builtin.len_ #[T] o.type #[x]).run c.P w).andThen fun v w => .ok (.value v) w:=by
     rw[hexec]
     simp[resolve,hcal,invoke,builtin,hTs',hxs']
    obtain⟨k1,_,_⟩:=hE.slice hT
    have hel:∃ q,c.P.elem T=q∧c.P.underlying T=some (.slice q):=⟨_,by simp[Program.elem,k1],k1⟩
    obtain⟨q,hel,k1⟩:=hel
    refine c5g h (x := .int .i64 xs.length) ?_ (d0p ⟨by omega,by omega⟩)
    rw[hex2,hsl,run_len_slice w T o.type ad xs.length cap (by rw[hel];exact k1)]
    rfl
  case h_2 f hcal =>
   split at hq
   case h_2=>cases hq
   case h_1 d hd =>
   split at hq
   case h_2=>cases hq
   split at hq
   case h_1 m hm =>
    have hrun:∀ x y:Value,cl.args.toList.map a.eval=[x,y]→a5p c.P f→(execOp a.eval o).run c.P w = .ok (.enter f [x,y].toArray) w:=fun x y hxy hfn=>by
     rw[←hxy];exact a6h hop hcal rfl hfn
    unfold e5y at hq
    split at hq
    case h_1 id k hargs =>
     split at hq
     case h_2=>cases hq
     case h_1 τ xs hid =>
     split at hq
     case h_2=>cases hq
     case h_1 x hx =>
     split at hq
     case h_2=>cases hq
     case h_1 xs' hx' =>
     simp only[Option.some.injEq,Prod.mk.injEq] at hq
     obtain⟨rfl,rfl⟩:=hq
     obtain⟨v,z,e1,e2,e3⟩:=d4x h hargs
     obtain⟨τm,g⟩:=m
     have ex:=TV.as_some hx
     have et:Ty.slice τ=τm:=congrArg TV.τ ex
     subst et
     cases ex
     have ex':=TV.as_some hx'
     have hxe:(g xs k).2.1=xs':=by cases ex';rfl
     have:=d7t hE h hm hid e2 e3 hvc hd (hrun v z e1) (Q:=Q)
     rw[←hxe]
     exact this
    case h_2 id i off sz k hargs =>
     split at hq
     case h_2=>cases hq
     case h_1 τ xs hid =>
     split at hq
     case h_2=>cases hq
     case h_1 u hu =>
     split at hq
     case h_2=>cases hq
     case h_1 x hx hb =>
     split at hq
     case h_2=>cases hq
     case h_1 y hy =>
     simp only[Option.some.injEq,Prod.mk.injEq] at hq
     obtain⟨rfl,rfl⟩:=hq
     simp only[Bool.and_eq_true,Bool.not_eq_true'] at hb
     obtain⟨hb1,hb2,hb3⟩:=hb
     have hb1:=Nat.eq_of_beq_eq_true hb1
     subst hb1
     obtain⟨v,z,e1,e2,e3⟩:=d4x h hargs
     exact d9v hE h hm hid hu hx hb2 (by simpa [Nat.blt_eq] using hb3) hy e2 e3 hvc hd (hrun v z e1)
    case h_3 cs k hargs =>
     split at hq
     case h_2=>cases hq
     case h_1 x ids ht =>
     split at hq
     case h_2=>cases hq
     case h_1 hb =>
     simp only[Option.some.injEq,Prod.mk.injEq] at hq
     obtain⟨rfl,rfl⟩:=hq
     simp only[Bool.and_eq_true,List.all_eq_true] at hb
     obtain⟨v,z,e1,e2,e3⟩:=d4x h hargs
     exact d9u hE h hm ht (a1y hb.1) hb.2 e2 e3 hvc hd (hrun v z e1)
    case h_4=>cases hq
   case h_2 hm =>
    split at hq
    case h_2=>cases hq
    case h_1 as has =>
    split at hq
    case h_2=>cases hq
    case h_1 pre res hc =>
    split at hq
    case h_2=>cases hq
    case h_1 hb =>
    simp only[Option.some.injEq,Prod.mk.injEq] at hq
    obtain⟨rfl,rfl⟩:=hq
    simp only[Bool.and_eq_true,List.all_eq_true] at hb
    exact d9z hE h has (a0g.of_ops (a0p h) cl.args.toList) hc hvc hd (fun p hp=>by simpa using hb.1 p hp) (a1y hb.2) (by omega) (fun hfn=>a6h hop hcal rfl hfn)
  case h_3=>cases hq
 case h_7=>cases hq
end
end Go.Proofs.YtmdefiphdgcijaaDoor

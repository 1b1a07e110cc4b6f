/- Tr3, Tr4. -/
import Derived.Test.YtlaoejdeanljgaaVmUse
import Derived.Test.YtlaoejdeanljgaaVmLib
import Derived.Test.YtlaoejdeanljgaaVmTr2
import Derived.Test.YtlaoejdeanljgaaVmProg
import Derived.Test.YtlaoejdeanljgaaVmBld3
import Derived.WalkKit
import Derived.Deep.QuietTactic
import Derived.BigQuiet
import Derived.LoopTactic
set_option linter.unusedVariables false
set_option linter.unusedSimpArgs false
set_option linter.unusedSectionVars false
namespace Go.Proofs.Ytlaoejdeanljgaa
noncomputable section
open Go.RowKit
mutual
theorem Ow.lt{w:World}:∀ (d:D) {cs:List Value} {fp:List Nat},Ow w d cs fp→∀ b∈fp,b<w.heap.size
 | .int _ _,_,_,h=>fun b hb=>by rw[h.2] at hb;cases hb
 | .bool _,_,_,h=>fun b hb=>by rw[h.2] at hb;cases hb
 | .str _,_,_,h=>fun b hb=>by rw[h.2] at hb;cases hb
 | .slice n xs,_,_,h=>fun b hb=>by
  obtain⟨a,cap,h1,h2,h3,h4,h5⟩:=h
  rcases h5 with ⟨_,_,rfl⟩|⟨b',f,l,t,rfl,rfl,hh,_,hr⟩
  ·cases hb
  ·rcases List.mem_cons.1 hb with rfl|hb
   ·exact (Array.getElem?_eq_some_iff.1 hh).1
   ·exact a1p.lt xs hr b hb
 | .agg ds,_,_,h=>a3a.lt ds h
 | .hole,_,_,h=>fun b hb=>by rw[h.2] at hb;cases hb
 | .ptr,_,_,h=>fun b hb=>by rw[h.2] at hb;cases hb
theorem a3a.lt{w:World}:∀ (ds:List D) {cs:List Value} {fp:List Nat},a3a w ds cs fp→∀ b∈fp,b<w.heap.size
 | [],_,_,h=>fun b hb=>by rw[h.2] at hb;cases hb
 | d::ds,_,_,h=>fun b hb=>by
  obtain⟨v,r,f1,f2,_,rfl,h3,h4⟩:=h
  rcases List.mem_append.1 hb with hb|hb
  ·exact Ow.lt d h3 b hb
  ·exact a3a.lt ds h4 b hb
theorem a1p.lt{w:World}:∀ (ds:List D) {l:List Value} {fp:List Nat},a1p w ds l fp→∀ b∈fp,b<w.heap.size
 | [],_,_,h=>fun b hb=>by rw[show _=[] from h] at hb;cases hb
 | d::ds,_,_,h=>fun b hb=>by
  obtain⟨c,r,f1,f2,_,rfl,h3,h4⟩:=h
  rcases List.mem_append.1 hb with hb|hb
  ·exact Ow.lt d h3 b hb
  ·exact a1p.lt ds h4 b hb
end
structure Nd(w:World)(b o:Nat)(x:a0a)(L:List Value)(t:TypeId)(fy:List Nat):Prop where
 h:w.heap[b]?=some (.cells L.toArray t (0,0))
 l:o+6≤L.length
 ow:Ow w x.toD ((L.drop o).take 6) fy
 nb:b∉fy
 nd:fy.Nodup
def Pl(w:World)(lo B:Nat)(x:a0a):Prop:=∃ cs t fp,w.heap[B]?=some (.cells cs.toArray t (0,0))∧Ow w x.toD cs fp∧∀ q∈fp,lo≤q
structure c9d(w:World)(lo B:Nat)(x:a0a)(ks:List Int)(b o:Nat)(L:List Value)(t:TypeId)(fy:List Nat):Prop where
 nd:Nd w b o (a2a x ks) L t fy
 flo:∀ q∈fy,lo≤q
 lb:lo≤b
 put:∀ (w':World) (y:a0a) (c:List Value) (f:List Nat),(∀ k,k<w.heap.size→k≠b→k∉fy→w'.heap[k]?=w.heap[k]?)→w'.heap[b]?=some (.cells (L.take o++c++L.drop (o+6)).toArray t (0,0))→c.length=6→Ow w' y.toD c f→(∀ q∈f,lo≤q)→Pl w' lo B (atW y x ks)
theorem h0j(w:World)(lo B:Nat)(x:a0a)(cs:List Value)(t:TypeId)(fp:List Nat)(h:w.heap[B]?=some (.cells cs.toArray t (0,0)))(ho:Ow w x.toD cs fp)(hb:B∉fp)(hn:fp.Nodup)(hB:lo≤B)(hl:∀ q∈fp,lo≤q):c9d w lo B x [] B 0 cs t fp:=by
 have hl6:cs.length=6:=(Ow.length _ ho).trans (by cases x;rfl)
 refine⟨⟨h,by omega,?_,hb,hn⟩,hl,hB,fun w' y c f hk hh hc hw hf=>⟨c,t,f,?_,hw,hf⟩⟩
 ·rw[List.drop_zero,List.take_of_length_le (by omega)];exact ho
 ·rw[List.take_zero,List.nil_append,List.drop_of_length_le (by omega),List.append_nil] at hh
  exact hh
theorem e6o(y:a0a)(k:Int):∀ (ks:List Int) (x:a0a),atW (a0a.mk (a2a x ks).kind (a2a x ks).num (a2a x ks).cond ((a2a x ks).kids.set k.toNat y)) x ks=atW y x (ks++[k])
 | [],x=>rfl
 | j::ks,x=>by
  simp only[List.cons_append,atW,a2a]
  rw[e6o y k ks]
theorem f3b(w:World)(z:a0a)(cs:List Value)(fy:List Nat)(h:Ow w z.toD cs fy):∃ c0 v fc fk,cs=c0++[v]∧c0.length=5∧fy=fc++fk∧Ow w (.slice 6 (z.kids.map a0a.toD)) [v] fk ∧
  ∀ (w':World) (ks:List a0a) (f:List Nat),(∀ b∈fc,w'.heap[b]?=w.heap[b]?)→Ow w' (.slice 6 (ks.map a0a.toD)) [v] f→Ow w' (a0a.mk z.kind z.num z.cond ks).toD cs (fc++f):=by
 cases z with
 | mk k n c ks =>
  simp only[a0a.toD,a0a.toDs_eq] at h
  obtain⟨v0,r0,f0,g0,rfl,rfl,a0,v1,r1,f1,g1,rfl,rfl,a1,v2,r2,f2,g2,rfl,rfl,a2,v3,r3,f3,g3,rfl,rfl,a3,v4,r4,f4,g4,rfl,rfl,a4,v5,r5,f5,g5,rfl,rfl,a5,rfl,rfl⟩:=h
  refine⟨[v0,v1,v2,v3,v4],v5,f0++(f1++(f2++(f3++f4))),f5,rfl,rfl,by simp,a5,fun w' ks' f hk hw=>?_⟩
  simp only[a0a.toD,a0a.toDs_eq]
  have hk':∀ b,b∈f0∨b∈f1∨b∈f2∨b∈f3∨b∈f4→w'.heap[b]?=w.heap[b]?:=fun b hb=>hk b (by simp only[List.mem_append];exact hb)
  refine⟨v0,_,f0,f1++(f2++(f3++(f4++f))),rfl,by simp,a0.keep _ fun b hb=>hk' b (.inl hb),v1,_,f1,f2++(f3++(f4++f)),rfl,by simp,a1.keep _ fun b hb=>hk' b (.inr (.inl hb)),v2,_,f2,f3++(f4++f),rfl,by simp,a2.keep _ fun b hb=>hk' b (.inr (.inr (.inl hb))),
   v3,_,f3,f4++f,rfl,by simp,a3.keep _ fun b hb=>hk' b (.inr (.inr (.inr (.inl hb)))),v4,_,f4,f,rfl,by simp,a4.keep _ fun b hb=>hk' b (.inr (.inr (.inr (.inr hb)))),v5,[],f,[],rfl,by simp,hw,rfl,rfl⟩
theorem d1f(x:a0a):x.toD.size=6:=by cases x;rfl
theorem g4z{w:World}{lo B:Nat}{x:a0a}{ks:List Int}{b o:Nat}{L:List Value}{t:TypeId}{fy:List Nat}(h:c9d w lo B x ks b o L t fy) :
  ∃ a cap,w.cell? ⟨b,o+5,none⟩=some (.slice a (a2a x ks).kids.length cap)∧(a2a x ks).kids.length≤140737488355328:=by
 obtain⟨c0,v,fc,fk,e1,e2,e3,e4,_⟩:=f3b w _ _ _ h.nd.ow
 obtain⟨a,cap,q1,_,_,q4,_⟩:=e4
 simp only[List.cons.injEq,and_true,List.length_map] at q1 q4
 subst q1
 refine⟨a,cap,?_,q4⟩
 have hl:=h.nd.l
 have h5:((L.drop o).take 6)[5]?=some (.slice a (a2a x ks).kids.length cap):=by rw[e1,List.getElem?_append_right (by omega),e2];rfl
 rw[List.getElem?_take_of_lt (by omega),List.getElem?_drop] at h5
 simp[World.cell?,h.nd.h,h5]
theorem g5a{w:World}{lo B:Nat}{x:a0a}{ks:List Int}{b o:Nat}{L:List Value}{t:TypeId}{fy:List Nat}(h:c9d w lo B x ks b o L t fy)(k:Int)(hk:0≤k∧k<((a2a x ks).kids.length:Int)) :
  ∃ bk cap L' t' fy',w.cell? ⟨b,o+5,none⟩=some (.slice (some ⟨bk,0,none⟩) (a2a x ks).kids.length cap)∧(a2a x ks).kids.length≤140737488355328∧c9d w lo B x (ks++[k]) bk (k.toNat * 6) L' t' fy':=by
 obtain⟨c0,v,fc,fk,e1,e2,rfl,e4,e5⟩:=f3b w _ _ _ h.nd.ow
 obtain⟨a,cap,q1,q2,q3,q4,q5⟩:=id e4
 simp only[List.cons.injEq,and_true,List.length_map] at q1 q2 q4
 subst q1
 have hl:=h.nd.l
 have h5:((L.drop o).take 6)[5]?=some (.slice a (a2a x ks).kids.length cap):=by rw[e1,List.getElem?_append_right (by omega),e2];rfl
 rw[List.getElem?_take_of_lt (by omega),List.getElem?_drop] at h5
 rcases q5 with ⟨q5,_⟩|⟨bk,f,l,t',rfl,rfl,hb,hc,hr⟩
 ·have:(a2a x ks).kids=[]:=List.map_eq_nil_iff.1 q5
  rw[this] at hk
  simp at hk
  omega
 have hki:k.toNat<(a2a x ks).kids.length:=by omega
 have hn6:∀ d∈(a2a x ks).kids.map a0a.toD,d.size=6:=fun d hd=>by
  obtain⟨y,_,rfl⟩:=List.mem_map.1 hd
  exact d1f y
 obtain⟨f0,f1,f2,rfl,hlen,hw1,hput⟩:=a1p.split _ k.toNat ((a2a x ks).kids.getD k.toNat zP).toD hr hn6 (by simp[hki])
 have hnd:=h.nd.nd
 have hnb:=h.nd.nb
 have hfk:∀ q,q∈bk::(f0++f1++f2)→q∉fc:=fun q hq hq'=>(List.nodup_append.1 hnd).2.2 q hq' q hq rfl
 have hnk:=(List.nodup_append.1 hnd).2.1
 have hnk2:=(List.nodup_cons.1 hnk)
 have hnk3:=List.nodup_append.1 hnk2.2
 have hnk4:=List.nodup_append.1 hnk3.1
 refine⟨bk,cap,l,t',f1,?_,q4,⟨hb,hlen,?_,fun q=>hnk2.1 (by simp[q]),hnk4.2.1⟩,fun q hq=>h.flo q (by simp[hq]),h.flo bk (by simp),fun w' y c f' hkeep hh hcl hw hlo=>?_⟩
 ·simp[World.cell?,h.nd.h,h5]
 ·rw[(f4i k ks x).2];exact hw1
 ·rw[←e6o]
  have hbk:b≠bk:=fun e=>hnb (by simp[e])
  have hlt:=fun q hq=>Ow.lt _ h.nd.ow q hq
  refine h.put w' _ ((L.drop o).take 6) (fc++(bk::(f0++f'++f2))) (fun q h1 h2 h3=>hkeep q h1 (fun e=>h3 (by simp[e])) fun e=>h3 (by simp[e])) ?_ (by simp;omega) ?_ (fun q hq=>?_)
  ·rw[hkeep b (Array.getElem?_eq_some_iff.1 h.nd.h).1 hbk fun e=>hnb (by simp[e]),h.nd.h]
   congr 2
   have e6:L.drop (o+6)=(L.drop o).drop 6:=by rw[List.drop_drop]
   rw[e6,List.append_assoc,List.take_append_drop,List.take_append_drop]
  ·refine e5 w' _ _ (fun q hq=>hkeep q (hlt q (by simp[hq])) (fun e=>hfk bk (by simp) (e ▸ hq)) fun e=>hfk q (by simp[e]) hq) ?_
   refine⟨_,cap,by rw[List.length_map,List.length_set],by rw[List.length_map,List.length_set];exact q2,q3,by rw[List.length_map,List.length_set];exact q4, .inr ⟨bk,f0++f'++f2,_,t',rfl,rfl,hh,?_,?_⟩⟩
   ·simp only[List.length_append,List.length_take,List.length_drop,hcl];omega
   ·rw[List.map_set]
    exact hput w' y.toD c f' (fun q hq=>hkeep q (hlt q (by simp only[List.mem_append,List.mem_cons] at hq ⊢;rcases hq with hq|hq<;>simp[hq])) (fun e=>hnk2.1 (by rw[←e];simp only[List.mem_append] at hq ⊢;rcases hq with hq|hq<;>simp[hq])) fun e=>by
     rcases List.mem_append.1 hq with hq|hq
     ·exact hnk4.2.2 q hq q e rfl
     ·exact hnk3.2.2 q (by simp[e]) q hq rfl) hcl hw
  ·simp only[List.mem_append,List.mem_cons] at hq
   rcases hq with hq|rfl|((hq|hq)|hq)
   ·exact h.flo q (by simp[hq])
   ·exact h.flo q (by simp)
   ·exact h.flo q (by simp[hq])
   ·exact hlo q hq
   ·exact h.flo q (by simp[hq])
end
end Go.Proofs.Ytlaoejdeanljgaa

set_option linter.unusedVariables false
set_option linter.unusedSimpArgs false
set_option linter.unusedSectionVars false
set_option maxRecDepth 4000
set_option maxHeartbeats 4000000
namespace Go.Proofs.Ytlaoejdeanljgaa
noncomputable section
open Go.RowKit Go.Proofs
set_option maxRecDepth 100000 in
theorem f4v(n lo hi:Int)(w:World):Calls prog c3b #[.int .i64 n, .int .i64 lo, .int .i64 hi] w fun e w'=>e = .returned (.bool (decide (lo≤n∧n≤hi)))∧w'=w:=by
 go_enter Try.func35,Try.ntmps35
 go_wp2
 ·go_ret
  refine⟨?_,rfl⟩
  simp_all
 ·go_ret
  refine⟨?_,rfl⟩
  simp
  omega
theorem c9d.same{w w':World}{lo B:Nat}{x:a0a}{ks:List Int}{b o:Nat}{L:List Value}{t:TypeId}{fy:List Nat}(h:c9d w lo B x ks b o L t fy)(e:w'.heap=w.heap):c9d w' lo B x ks b o L t fy :=
 ⟨⟨by rw[e];exact h.nd.h,h.nd.l,h.nd.ow.keep _ fun _ _=>by rw[e],h.nd.nb,h.nd.nd⟩,h.flo,h.lb,fun w'' y c f hk=>h.put w'' y c f fun k h1=>by rw[←e];exact hk k (by rw[e];exact h1)⟩
def g9w(w0:World)(lo B:Nat)(x:a0a)(ks:List Int)(p i:Value)(w:World):Prop :=
 (∃ m,w=w0.drewN m)∧∃ (k:Nat) (b o:Nat) (L:List Value) (t:TypeId) (fy:List Nat),i = .int .i64 (k:Int)∧k≤ks.length∧p = .pointer (some ⟨b,o,none⟩)∧atO x (ks.take k)=true∧c9d w0 lo B x (ks.take k) b o L t fy
def g9a(n:Nat):Value→Nat
 | .int _ k=>n - k.toNat
 | _=>0
set_option maxRecDepth 100000 in
theorem g8d(w:World)(lo B:Nat)(x:a0a)(ks:List Int)(cs:List Value)(t:TypeId)(fp:List Nat)(h:w.heap[B]?=some (.cells cs.toArray t (0,0)))(ho:Ow w x.toD cs fp)(hb:B∉fp)(hn:fp.Nodup)(hB:lo≤B)(hl:∀ q∈fp,lo≤q)
  (v:Value) (S:Nat→Prop) (hv:Rd w S (.slice 1 (ks.map (D.int .i64))) [v]) :
  Calls prog g0i #[.pointer (some ⟨B,0,none⟩),v] w fun e w'=>(∃ m,w'=w.drewN m)∧∃ p,e = .returned (.tuple #[p, .bool (atO x ks)]) ∧
   (atO x ks=true→∃ b o L t fy,p = .pointer (some ⟨b,o,none⟩)∧c9d w lo B x ks b o L t fy):=by
 obtain⟨a,cap,hv1,_,hcap,hlen,hrow⟩:=hv
 simp only[List.cons.injEq,and_true] at hv1
 subst hv1
 simp only[List.length_map] at *
 go_enter Try.func34,Try.ntmps34
 go_wp2
 go_loopw [0,6] (fun p i w'=>g9w w lo B x ks p i w') (fun p i w'=>g9a ks.length i)
 ·exact⟨⟨0,rfl⟩,0,B,0,cs,t,fp,rfl,Nat.zero_le _,rfl,by rw[List.take_zero];rfl,by rw[List.take_zero];exact h0j w lo B x cs t fp h ho hb hn hB hl⟩
 obtain⟨⟨nd,hwn⟩,k,b,o,L,t',fy,rfl,hk,rfl,hat,hL⟩:=hrel
 have hw:wr.heap=w.heap:=by rw[hwn];rfl
 have hwd:∀ m,∃ m',wr.drewN m=w.drewN m':=fun m=>⟨nd+m,by rw[hwn,World.drewN_drewN]⟩
 have hw0:∃ m,wr=w.drewN m:=⟨nd,hwn⟩
 clear hwn
 have hLr:=hL.same hw
 obtain⟨a5,cap5,hc5,hl5⟩:=g4z hLr
 by_cases hkn:k<ks.length
 ·obtain hrow|⟨b0,o0,rfl,hb0,hrow⟩:=hrow
  ·rw[List.map_eq_nil_iff] at hrow
   subst hrow
   simp at hkn
  obtain⟨c0,hc1,hc2,hc3⟩:=hrow.at_ (n:=1) _ _ _ (fun d hd=>by obtain⟨y,_,rfl⟩:=List.mem_map.1 hd;rfl) k (.int .i64 (ks.getD k 0)) (by simp[hkn])
  rw[hc2.1] at hc3
  have hck:wr.cell? ⟨b0,o0+k,none⟩=some (.int .i64 (ks.getD k 0)):=by
   have:=hc3 0 _ rfl
   rw[←this]
   simp only[Nat.mul_one,Nat.add_zero,World.cell?,hw]
  have hstep:=g1t x ks k hkn
  generalize hj:ks.getD k 0=j at *
  generalize hnn:(a2a x (ks.take k)).kids.length=nk at *
  go_wp2
  go_quiet (first|(go_at_call 35;exact Calls.quiet_of_same (f4v _ _ _ _)))
  go_wp2
  ·have hbad:atO x (ks.take (k+1))=false:=by
    rw[hstep.1,hat]
    simp at *
    omega
   have:=(g4h x ks k hbad).2
   go_ret2
   refine⟨hwd _, .pointer (some ⟨b,o,none⟩),by rw[this];rfl,fun e=>?_⟩
   rw[this] at e
   cases e
  ·rename_i hin
   have hin':0≤j∧j≤(nk:Int) - 1:=by
    simp at hin
    omega
   obtain⟨j,rfl⟩:=Int.eq_ofNat_of_zero_le hin'.1
   obtain⟨bk,cap',L',t2,fy',hs1,hs2,hs3⟩:=g5a hLr (j:Int) ⟨by omega,by omega⟩
   rw[hnn,hc5] at hs1
   simp only[Option.some.injEq,Value.slice.injEq,true_and] at hs1
   obtain⟨rfl,rfl⟩:=hs1
   rw[hnn] at hs2
   have hkk:=a9s 0 ks k hkn
   rw[hj] at hkk
   go_quiet (skip)
   go_wp2
   refine⟨⟨hwd _,k+1,bk,j * 6,L',t2,fy',rfl,by omega,rfl,?_,?_⟩,?_⟩
   ·rw[hstep.1,hat]
    simp
    omega
   ·rw[hkk]
    simpa using hs3.same hw.symm
   ·simp only[g9a]
    omega
 ·go_wp2
  have hend:=g4i x ks k (by omega) hat
  go_ret2
  refine⟨hw0, .pointer (some ⟨b,o,none⟩),by rw[hend.2];rfl,fun _=>⟨b,o,L,t',fy,rfl,?_⟩⟩
  rw[List.take_of_length_le (by omega)] at hL
  exact hL
theorem f5s{w w':World}{S:Nat→Prop}(h:SOk w S)(hk:a1t (fun _=>False) w w'):SOk w' fun b=>b<w'.heap.size :=
 ⟨fun _ h=>h,h.2.mono (fun b hb=>Nat.lt_of_lt_of_le (h.1 b hb) hk.size) fun b hb=>hk.block b (h.1 b hb) id⟩
theorem c9s{w:World}{b:Nat}{cs:List Value}{t:TypeId}(h:w.heap[b]?=some (.cells cs.toArray t (0,0))):a3c w b 0 cs:=fun j v hj=>by
 simp[World.cell?,h,hj]
theorem g2a{w0 w:World}{S:Nat→Prop}(hS:SOk w0 S)(hk:a1t (fun _=>False) w0 w)(gg:a0l)(g:List Value)(r1:Rd w0 S (a0o.sig.toD gg) g)(x:a0a)(b:Nat)(cs:List Value)(t:TypeId)
  (h:w.heap[b]?=some (.cells cs.toArray t (0,0))) (r:Rd w (fun b=>b<w.heap.size) x.toD cs) :
  Calls prog c3e #[.agg g.toArray, .pointer (some ⟨b,0,none⟩)] w fun e w'=>e = .returned (.bool (okP gg x))∧a1t (fun _=>False) w w':=by
 have hA:=f5s hS hk
 have r1':Rd w (fun b=>b<w.heap.size) (a0o.sig.toD gg) g:=r1.keep (fun b hb=>Nat.lt_of_lt_of_le (hS.1 b hb) hk.size) fun b hb=>hk.block b (hS.1 b hb) id
 refine (d1x.2 gg x trivial w _ [_,_] hA ⟨⟨g,rfl,r1'⟩,⟨b,0,cs,rfl,(Array.getElem?_eq_some_iff.1 h).1,c9s h,r⟩,trivial⟩).mono ?_
 rintro e w' ⟨v,S',res,rfl,rfl,hk',_,_,hr⟩
 have hr:[v]=[.bool (okP gg x)]:=hr
 simp only[List.cons.injEq,and_true] at hr
 subst hr
 exact⟨rfl,hk'⟩
theorem g6z{w0 w:World}{S:Nat→Prop}(hS:SOk w0 S)(hk:a1t (fun _=>False) w0 w)(x:a0a)(hx:a0e x≤1048576)(b:Nat)(cs:List Value)(t:TypeId)
  (h:w.heap[b]?=some (.cells cs.toArray t (0,0))) (r:Rd w (fun b=>b<w.heap.size) x.toD cs) :
  Calls prog b6q #[.pointer (some ⟨b,0,none⟩)] w fun e w'=>∃ c fp,e = .returned (.agg c.toArray)∧c.length=6∧a1t (fun _=>False) w w'∧Ow w' x.toD c fp∧fp.Nodup∧∀ q∈fp,w.heap.size≤q∧q<w'.heap.size:=by
 have hA:=f5s hS hk
 refine (a5g.2 x hx w _ [_] [] hA ⟨[],[],rfl,⟨rfl,⟨b,0,cs,rfl,(Array.getElem?_eq_some_iff.1 h).1,c9s h,r⟩⟩,rfl⟩ (.inl rfl) List.nodup_nil (by simp)).mono ?_
 rintro e w' ⟨v,fp,rfl,hk',ho,hn,hf⟩
 obtain⟨c,rfl,ho⟩:=ho
 exact⟨c,fp,rfl,(Ow.length _ ho).trans (d1f x),by simpa using hk',ho,hn,fun q hq=>by simpa using hf q hq⟩
theorem g6a{w0 w:World}{S:Nat→Prop}(hS:SOk w0 S)(hk:a1t (fun _=>False) w0 w)(x:a0a)(hx:prT x)(ru:Int)(hr:a0d ru)(b o:Nat)(L:List Value)(t:TypeId)(fy:List Nat)
  (h:Nd w b o x L t fy) :
  Calls prog b4f #[.pointer (some ⟨b,o,none⟩), .int .i64 ru] w fun e w'=>∃ c fp,e = .returned (.tuple #[.agg c.toArray, .bool (rwO x ru)])∧c.length=6∧a1t (fun _=>False) w w'∧Ow w' (rwV x ru).toD c fp∧fp.Nodup∧∀ q∈fp,w.heap.size≤q∧q<w'.heap.size:=by
 have hA:=f5s hS hk
 have hc:a3c w b o ((L.drop o).take 6):=fun j v hj=>by
  have hj6:j<6:=by
   have:=(List.getElem?_eq_some_iff.1 hj).1
   rw[List.length_take] at this
   omega
  rw[List.getElem?_take_of_lt hj6,List.getElem?_drop] at hj
  simp[World.cell?,h.h,hj]
 refine (d6i.2 x ru hx w _ [_,_] [] hA ⟨[],[],rfl,⟨rfl,⟨b,o,_,rfl,(Array.getElem?_eq_some_iff.1 h.h).1,hc,h.ow.rd _ fun q hq=>Ow.lt _ h.ow q hq⟩⟩,[],[],rfl,⟨rfl,⟨rfl,hr⟩⟩,rfl⟩ (.inl rfl) List.nodup_nil (by simp)).mono ?_
 rintro e w' ⟨v,fp,rfl,hk',⟨l,rfl,ho⟩,hn,hf⟩
 match l,ho with
 | [v1,v2],⟨f1,f0,e1,⟨c,e4,ho⟩,f2,f3,e5,h2,e3⟩ =>
  subst e4
  subst e5
  obtain⟨h4,h5⟩:[v2]=[.bool (rwO x ru)]∧f2=[]:=h2
  have e3:f3=[]:=e3
  rw[h5,e3,List.append_nil,List.append_nil] at e1
  rw[e1] at hn hf
  simp only[List.cons.injEq,and_true] at h4
  rw[h4]
  exact⟨c,f1,rfl,(Ow.length _ ho).trans (d1f _),by simpa using hk',ho,hn,fun q hq=>by simpa using hf q hq⟩
theorem a3w{P:Program}{ops:Array Oper}{rest:List Oper}{op:Oper}{a:Act}{w w':World}{Q:Exit→Act→World→Prop}{ty:TypeId}{x y:Operand}{p v:Value}(hgd:op.guard=none)(ho:op.op = .store ty x y)
  (hx:a.eval x=p) (hy:a.eval y=v) (hr:(Instr.storeAt ty p v).run P w = .ok () w') (h:wpList P ops Q rest (a.put op.dst undef) w'):wpList P ops Q (op::rest) a w :=
 wpList_plain hgd fun K hK=>by
  unfold Oper.wp execOp
  simp only[ho,hx,hy,Sem.run_bind,Sem.run_pure,Result.andThen_ok,hr]
  exact hK _ _ h
theorem d3i{P:Program}{ops:Array Oper}{rest:List Oper}{op:Oper}{a:Act}{w:World}{Q:Exit→Act→World→Prop}{ty:TypeId}{x:Operand}{p v:Value}(hgd:op.guard=none)(ho:op.op = .load ty x)
  (hx:a.eval x=p) (hr:(Instr.loadAt ty p).run P w = .ok v w) (h:wpList P ops Q rest (a.put op.dst v) w):wpList P ops Q (op::rest) a w :=
 wpList_plain hgd fun K hK=>by
  unfold Oper.wp execOp
  simp only[ho,hx,Sem.run_bind,Sem.run_pure,Result.andThen_ok,hr]
  exact hK _ _ h
def E0:Env:=a0x [] [] [] []
theorem hE0:a1m prog E0:=e8e trivial
theorem h0u{w:World}{g o:Nat}{cs:List Value}(hc:a3c w g o cs)(hl:cs.length=6):(Instr.loadAt 31 (.pointer (some ⟨g,o,none⟩))).run prog w = .ok (.agg cs.toArray) w :=
 b6e hE0 (T:=31) (τ := .st .prog) rfl hc hl
theorem g3c{w:World}{g:Nat}{cs:List Value}{t:TypeId}(h:w.heap[g]?=some (.cells cs.toArray t (0,0)))(hl:cs.length=6):(Instr.loadAt 31 (.pointer (some ⟨g,0,none⟩))).run prog w = .ok (.agg cs.toArray) w:=h0u (c9s h) hl
theorem g9t{w:World}{g o:Nat}{l cs:List Value}{t:TypeId}(hg:w.heap[g]?=some (.cells l.toArray t (0,0)))(h6:cs.length=6)(h1:∀ u∈cs,u.oneCell'=true)(hfit:o+6≤l.length) :
  ∃ w',(Instr.storeAt 31 (.pointer (some ⟨g,o,none⟩)) (.agg cs.toArray)).run prog w = .ok () w'∧w'.heap[g]?=some (.cells (l.take o++cs++l.drop (o+6)).toArray t (0,0))∧a1t (fun b=>b=g) w w'∧w'.heap.size=w.heap.size:=by
 have:=c5g (c:=⟨prog,E0,w,fun _=>False,fun _=>False,fun _=>none,fun _=>False,fun _=>none⟩) hE0 (T:=31) (τ := .st .prog) rfl (o:=o) (x := .agg cs.toArray) hg (by simp only[Value.cells];exact h6) (by simpa [Value.cells] using h1) hfit
 refine⟨_,this,?_,⟨rfl,rfl,rfl,by simp,fun b _ hb=>setRow_other w g b _ hb⟩,by simp⟩
 rw[setRow_heap w g _ _ t _ hg]
 rfl
theorem d3g{w:World}{g:Nat}{l cs:List Value}{t:TypeId}(hg:w.heap[g]?=some (.cells l.toArray t (0,0)))(hl:l.length=6)(h6:cs.length=6)(h1:∀ u∈cs,u.oneCell'=true) :
  ∃ w',(Instr.storeAt 31 (.pointer (some ⟨g,0,none⟩)) (.agg cs.toArray)).run prog w = .ok () w'∧w'.heap[g]?=some (.cells cs.toArray t (0,0))∧a1t (fun b=>b=g) w w'∧w'.heap.size=w.heap.size:=by
 obtain⟨w',q1,q2,q3⟩:=g9t hg h6 h1 (o:=0) (by omega)
 refine⟨w',q1,?_,q3⟩
 rw[q2,List.take_zero,List.nil_append,List.drop_of_length_le (by omega),List.append_nil]
theorem b9r{a:Act}{w:World}{b:Nat}{cs:List Value}{t:TypeId}{n:Value}(h8:a.tmps.getD 8 undef = .pointer (some ⟨b,0,none⟩))(h9:a.tmps.getD 9 undef=n)(hb:w.heap[b]?=some (.cells cs.toArray t (0,0)))(hl:cs.length=6)(hd:a.defers=[])
  {R:Ending→World→Prop} (hR:R (.returned (.tuple #[.agg cs.toArray,n])) w):bodyPost prog Try.f7 R .ret a w:=by
 refine bodyPost_ret ?_ hd hR
 have hrun:=g3c hb hl
 simp only[Instr.loadAt,Instr.sureAddr,Sem.run_bind,Sem.run_pure,Result.andThen_ok] at hrun
 rw[c8p,Array.mapM_eq_mapM_toList]
 simp only[Sem.run_bind,Sem.run_map,Try.f7,List.mapM_cons,List.mapM_nil,b8o,h8,h9,asAddr,Sem.run_pure,Result.andThen_ok,hrun]
 rfl
theorem g1l{w W:World}{o1 o2 o3:Obj}(h:((w.alloc o1).alloc o2).alloc o3=W) :
  a1t (fun _=>False) w W∧W.heap[w.heap.size]?=some o1∧W.heap[w.heap.size+1]?=some o2∧W.heap[w.heap.size+1+1]?=some o3∧W.heap.size=w.heap.size+3:=by
 subst h
 refine⟨⟨rfl,rfl,rfl,by simp;omega,fun b hb _=>?_⟩,?_,?_,?_,by simp⟩
 ·show (((w.heap.push o1).push o2).push o3)[b]?=_
  rw[Array.getElem?_push,Array.getElem?_push,Array.getElem?_push,if_neg (by simp only[Array.size_push];omega),if_neg (by simp only[Array.size_push];omega),if_neg (by omega)]
 ·show (((w.heap.push o1).push o2).push o3)[w.heap.size]?=_
  rw[Array.getElem?_push,Array.getElem?_push,Array.getElem?_push,if_neg (by simp only[Array.size_push];omega),if_neg (by simp only[Array.size_push];omega),if_pos rfl]
 ·show (((w.heap.push o1).push o2).push o3)[w.heap.size+1]?=_
  rw[Array.getElem?_push,Array.getElem?_push,if_neg (by simp only[Array.size_push];omega),if_pos (by simp only[Array.size_push])]
 ·show (((w.heap.push o1).push o2).push o3)[w.heap.size+1+1]?=_
  rw[Array.getElem?_push,if_pos (by simp only[Array.size_push])]
theorem e6m(w:World)(o:Obj):a1t (fun _=>False) w (w.alloc o)∧(w.alloc o).heap[w.heap.size]?=some o∧(w.alloc o).heap.size=w.heap.size+1:=by
 refine⟨⟨rfl,rfl,rfl,by simp,fun b hb _=>?_⟩,?_,by simp⟩
 ·show (w.heap.push o)[b]?=_
  rw[Array.getElem?_push,if_neg];omega
 ·show (w.heap.push o)[w.heap.size]?=_
  rw[Array.getElem?_push,if_pos rfl]
def zC:List Value:=[.int .i64 0, .int .i64 0, .int .i64 0, .int .i64 0, .slice none 0 0, .slice none 0 0]
def f9d(w:World)(S:Nat→Prop)(gg:a0l)(p:a0a)(ks:List Int)(ru:Int)(e:Ending)(w':World):Prop :=
 ∃ x S' res,e=Ending.returned x∧res=[(⟨.st .prog,trV gg p ks ru⟩:TV),⟨.int .i64,trC gg p ks ru⟩]∧a1t (fun _=>False) w w' ∧
  (∀ b,b<w.heap.size→(S' b↔S b))∧(∀ b,S' b→b<w'.heap.size)∧c9f w' S' res x
theorem d6r{w w':World}{S:Nat→Prop}{gg:a0l}{p:a0a}{ks:List Int}{ru c:Int}(hS:SOk w S)(hk:a1t (fun _=>False) w w')(h:trV gg p ks ru=a0a.mk (0:Int) (0:Int) zE []∧trC gg p ks ru=c)(hc:a0d c) :
  f9d w S gg p ks ru (.returned (.tuple #[.agg zC.toArray, .int .i64 c])) w':=by
 refine⟨_,S,_,rfl,rfl,hk,fun _ _=>Iff.rfl,fun b hb=>Nat.lt_of_lt_of_le (hS.1 b hb) hk.size,[_,_],rfl,⟨_,rfl,?_⟩,?_,trivial⟩
 ·rw[h.1]
  have h0:IntKind.i64.min≤0∧(0:Int)≤IntKind.i64.max:=by decide
  have hs:∀ n,Rd w' S (.slice n []) [.slice none 0 0]:=fun n=>⟨none,0,rfl,by simp,by simp[maxLen],by simp, .inl rfl⟩
  exact⟨_,_,rfl,⟨rfl,h0⟩,_,_,rfl,⟨rfl,h0⟩,_,_,rfl,⟨rfl,h0⟩,_,_,rfl,⟨rfl,h0⟩,_,_,rfl,hs _,_,_,rfl,hs _,rfl⟩
 ·rw[h.2]
  exact⟨rfl,hc⟩
theorem f4u{n:Int}(h:IntKind.i64.min≤n∧n≤IntKind.i64.max):a0d n:=h
theorem a6i{X Y Z:Nat→Prop}{a b c:World}(h:a1t X a b)(k:a1t Y b c)(hX:∀ i,i<a.heap.size→X i→Z i)(hY:∀ i,i<a.heap.size→Y i→Z i):a1t Z a c :=
 ⟨k.os.trans h.os,k.tape.trans h.tape,k.output.trans h.output,Nat.le_trans h.size k.size,fun i hi hz=>(k.block i (Nat.lt_of_lt_of_le hi h.size) fun q=>hz (hY i hi q)).trans (h.block i hi fun q=>hz (hX i hi q))⟩
theorem e3w:∀ u∈zC,u.oneCell'=true:=by decide
set_option maxRecDepth 100000 in
theorem g8q(gg:a0l)(p:a0a)(ks:List Int)(ru:Int):a1f prog b6d [.val ⟨.st .sig,gg⟩, .val ⟨.st .prog,p⟩, .val ⟨.slice (.int .i64),ks⟩, .val ⟨.int .i64,ru⟩] (·=[⟨.st .prog,trV gg p ks ru⟩,⟨.int .i64,trC gg p ks ru⟩]):=by
 intro w S vals hS ha
 have T:=g9v gg p ks ru
 match vals,ha with
 | [v1,v2,v3,v4],ha =>
 obtain⟨⟨c1,rfl,r1⟩,⟨c2,rfl,r2⟩,r3,r4,_⟩:=ha
 have r4:[v4]=[.int .i64 ru]∧_:=r4
 obtain⟨r4,r4b⟩:=r4
 simp only[List.cons.injEq,and_true] at r4
 subst r4
 have r3:Rd w S (.slice 1 (ks.map (D.int .i64))) [v3]:=r3
 clear ha
 obtain⟨g0,g1,rfl⟩:∃ g0 g1,c1=[g0,g1]:=by
  have:=Rd.length _ r1
  match c1,this with
  | [g0,g1],_=>exact⟨_,_,rfl⟩
 have l2:c2.length=6:=(Rd.length _ r2).trans (d1f p)
 show Calls prog b6d _ w (f9d w S gg p ks ru)
 generalize hPo:f9d w S gg p ks ru=Po
 go_enter Try.func7,Try.ntmps7
 go_wp2
 generalize hW:((w.alloc _).alloc _).alloc _=W
 obtain⟨k1,h1,h2,h3,h4⟩:=g1l hW
 clear hW
 refine (g2a hS k1 gg _ r1 p _ _ _ h2 (r2.keep (fun b hb=>Nat.lt_of_lt_of_le (hS.1 b hb) k1.size) fun b hb=>k1.block b (hS.1 b hb) id)).mono ?_
 rintro _ w1 ⟨rfl,k2⟩
 have k3:=k1.trans k2 (by simp)
 have e1:=(k2.block _ (Array.getElem?_eq_some_iff.1 h1).1 id).trans h1
 have e2:=(k2.block _ (Array.getElem?_eq_some_iff.1 h2).1 id).trans h2
 have e3:=(k2.block _ (Array.getElem?_eq_some_iff.1 h3).1 id).trans h3
 have hsz1:w.heap.size+3≤w1.heap.size:=by rw[←h4];exact k2.size
 clear h1 h2 h3 k1 k2 h4
 cases hok:okP gg p
 ·obtain⟨w2,hst,e4,k4,_⟩:=d3g (cs:=zC) (l:=zC) e3 rfl rfl e3w
  go_wp2_with (refine a3w rfl rfl rfl rfl hst ?_)
  refine b9r rfl rfl e4 rfl rfl ?_
  rw[←hPo]
  exact d6r hS (k3.trans k4 (fun i h q=>by omega)) (T.n hok) (f4u (by decide))
 have hsz:=T.s hok
 go_wp2_with (first|(go_at_call 33;refine (g6z hS k3 p (by have:=hsz.2;omega) _ _ _ e2 (r2.keep (fun b hb=>Nat.lt_of_lt_of_le (hS.1 b hb) k3.size) fun b hb=>k3.block b (hS.1 b hb) id)).mono ?_))
 rintro _ w2 ⟨c,fp,rfl,hc6,k4,ho,hn,hf⟩
 obtain⟨k5,e5,hs5⟩:=e6m w2 (.cells zC.toArray 31 (0,0))
 have hone:∀ u∈c,u.oneCell'=true:=Rd.oneCells (S:=fun b=>b∈fp) (τ := .st .prog) (x:=p) (Ow.rd _ ho fun b hb=>hb)
 obtain⟨w3,hst3,e6,k6,hs6⟩:=d3g (cs:=c) e5 rfl hc6 hone
 have hs4:=k4.size
 have hfB:w2.heap.size∉fp:=fun q=>by have:=(hf _ q).2;omega
 have ho3:Ow w3 p.toD c fp:=ho.keep _ fun b hb=>(k6.block b (by have:=(hf b hb).2;omega) (by have:=(hf b hb).2;omega)).trans (k5.block b (hf b hb).2 id)
 have k7:a1t (fun _=>False) w1 w3:=a6i k4 (a6i (Z:=fun b=>b=w2.heap.size) k5 k6 (fun _ _ q=>q.elim) fun _ _ q=>q) (fun _ _ q=>q) fun i _ q=>by omega
 have k8:a1t (fun _=>False) w w3:=a6i k3 k7 (fun _ _ q=>q) fun _ _ q=>q
 have r3':Rd w3 (fun b=>b<w3.heap.size) (.slice 1 (ks.map (D.int .i64))) [v3]:=r3.keep (fun b hb=>Nat.lt_of_lt_of_le (hS.1 b hb) k8.size) (fun b hb=>k8.block b (hS.1 b hb) id)
 go_wp2_with (first|(refine a3w rfl rfl rfl rfl hst3 ?_)|(go_at_call 34;refine (g8d w3 w1.heap.size w2.heap.size p ks c 31 fp e6 ho3 hfB hn hs4 (fun q hq=>(hf q hq).1) v3 _ r3').mono ?_))
 rintro _ w4 ⟨⟨m,rfl⟩,pn,rfl,hL⟩
 have k9:a1t (fun _=>False) w (w3.drewN m):=⟨k8.os,k8.tape,k8.output,k8.size,k8.block⟩
 have e7:(w3.drewN m).heap[w.heap.size+1+1]?=some (.cells zC.toArray 31 (0,0)):=(k7.block _ (Array.getElem?_eq_some_iff.1 e3).1 id).trans e3
 have e8:(w3.drewN m).heap[w.heap.size]?=some (.cells [g0,g1].toArray 25 (0,0)):=(k7.block _ (Array.getElem?_eq_some_iff.1 e1).1 id).trans e1
 have hs9:w1.heap.size≤(w3.drewN m).heap.size:=k7.size
 have hl0:=hL
 have hL0:∀ b o L t fy,c9d w3 w1.heap.size w2.heap.size p ks b o L t fy→c9d (w3.drewN m) w1.heap.size w2.heap.size p ks b o L t fy:=fun b o L t fy h=>h.same rfl
 generalize w3.drewN m=w4 at *
 clear hL e6 ho3 hst3 k6 hs6 k7 k8
 cases hat:atO p ks
 ·obtain⟨w5,hst,e9,k10,_⟩:=d3g (cs:=zC) (l:=zC) e7 rfl rfl e3w
  go_wp2_with (refine a3w rfl rfl rfl rfl hst ?_)
  refine b9r rfl rfl e9 rfl rfl ?_
  rw[←hPo]
  exact d6r hS (a6i k9 k10 (fun _ _ q=>q) (fun i h q=>by omega)) (T.a hok (.inl hat)) (f4u (by decide))
 obtain⟨b,o,L,t,fy,rfl,hLs⟩:=hl0 hat
 have hLn:=hL0 _ _ _ _ _ hLs
 clear hl0 hL0 hLs
 by_cases hru:1≤ru∧ru≤14
 rotate_left
 ·obtain⟨w5,hst,e9,k10,_⟩:=d3g (cs:=zC) (l:=zC) e7 rfl rfl e3w
  go_wp2_with (first|(go_at_call 35;refine (f4v _ _ _ _).mono ?_;rintro _ wx ⟨rfl,hwx⟩;rw[hwx,decide_eq_false hru])|(refine a3w rfl rfl rfl rfl hst ?_))
  refine b9r rfl rfl e9 rfl rfl ?_
  rw[←hPo]
  exact d6r hS (a6i k9 k10 (fun _ _ q=>q) (fun i h q=>by omega)) (T.a hok (.inr hru)) (f4u (by decide))
 have hprT:=T.pt hok hat
 go_wp2_with (first|(go_at_call 35;refine (f4v _ _ _ _).mono ?_;rintro _ wx ⟨rfl,hwx⟩;rw[hwx,decide_eq_true hru])|(go_at_call 36;refine (g6a hS k9 _ (by have:=hprT;rwa [atP,hat] at this) ru r4b b o L t fy hLn.nd).mono ?_))
 rintro _ w5 ⟨c',f',rfl,hc7,k10,ho5,hn5,hf5⟩
 have hT:atP p ks=a2a p ks:=by rw[atP,hat];rfl
 have k11:=a6i (Z:=fun _=>False) k9 k10 (fun _ _ q=>q) fun _ _ q=>q
 have e9:=(k10.block _ (Array.getElem?_eq_some_iff.1 e7).1 id).trans e7
 have e10:=(k10.block _ (Array.getElem?_eq_some_iff.1 e8).1 id).trans e8
 have hone5:∀ u∈c',u.oneCell'=true:=Rd.oneCells (S:=fun b=>b∈f') (τ := .st .prog) (x:=rwV (a2a p ks) ru) (Ow.rd _ ho5 fun b hb=>hb)
 obtain⟨k12,e11,hs12⟩:=e6m w5 (.cells zC.toArray 31 (0,0))
 obtain⟨w6,hst6,e12,k13,hs13⟩:=d3g (cs:=c') e11 rfl hc7 hone5
 have k14:a1t (fun _=>False) w5 w6:=a6i (Z:=fun _=>False) (a6i (Z:=fun b=>b=w5.heap.size) k12 k13 (fun _ _ q=>q.elim) fun _ _ q=>q) (a1t.refl (fun _=>False) _) (fun i h q=>by omega) fun _ _ q=>q
 have k15:=a6i (Z:=fun _=>False) k11 k14 (fun _ _ q=>q) fun _ _ q=>q
 have e13:=(k14.block _ (Array.getElem?_eq_some_iff.1 e9).1 id).trans e9
 have e14:=(k14.block _ (Array.getElem?_eq_some_iff.1 e10).1 id).trans e10
 cases hrw:rwO (a2a p ks) ru
 ·obtain⟨w7,hst,e15,k16,_⟩:=d3g (cs:=zC) (l:=zC) e13 rfl rfl e3w
  go_wp2_with (first|(refine a3w rfl rfl rfl rfl hst6 ?_)|(refine a3w rfl rfl rfl rfl hst ?_))
  refine b9r rfl rfl e15 rfl rfl ?_
  rw[←hPo]
  exact d6r hS (a6i k15 k16 (fun _ _ q=>q) (fun i h q=>by omega)) (T.b hok hat hru (by rw[hT];exact hrw)) (f4u (by decide))
 have hb4:b<w4.heap.size:=(Array.getElem?_eq_some_iff.1 hLn.nd.h).1
 have hlb:=hLn.lb
 have hs10:=k10.size
 have hL6:w6.heap[b]?=some (.cells L.toArray t (0,0)):=(k14.block b (Nat.lt_of_lt_of_le hb4 k10.size) id).trans ((k10.block b hb4 id).trans hLn.nd.h)
 obtain⟨w7,hst7,e15,k16,hs16⟩:=g9t (o:=o) hL6 hc7 hone5 hLn.nd.l
 have k17:a1t (fun _=>False) w w7:=a6i k15 k16 (fun _ _ q=>q) fun i h q=>by omega
 have hs14:=k14.size
 have hP:Pl w7 w1.heap.size w2.heap.size (atW (rwV (a2a p ks) ru) p ks):=by
  refine hLn.put w7 _ c' f' (fun k h1 h2 h3=>?_) e15 hc7 (ho5.keep _ fun q hq=>?_) fun q hq=>?_
  ·exact (k16.block k (by omega) h2).trans ((k14.block k (by omega) id).trans (k10.block k h1 id))
  ·have:=hf5 q hq
   exact (k16.block q (by omega) (by omega)).trans (k14.block q (by omega) id)
  ·have:=hf5 q hq
   omega
 obtain⟨c8,t8,f8,q1,q2,q3⟩:=hP
 have q4:c8.length=6:=(Ow.length _ q2).trans (d1f _)
 have hA:atW (rwV (a2a p ks) ru) p ks=trA gg p ks ru:=by unfold trA;rw[hT]
 rw[hA] at q2
 have hokA:okP gg (trA gg p ks ru)=isP gg (trA gg p ks ru):=by rw[okP,hsz.1];rfl
 have e16:=(k16.block _ (Array.getElem?_eq_some_iff.1 e13).1 (by omega)).trans e13
 have e17:=(k16.block _ (Array.getElem?_eq_some_iff.1 e14).1 (by omega)).trans e14
 have hc0:w7.cell? ⟨w.heap.size,0,none⟩=some g0:=c9s e17 0 _ rfl
 have hc1:w7.cell? ⟨w.heap.size,1,none⟩=some g1:=c9s e17 1 _ rfl
 have hld:=g3c e12 hc7
 go_wp2_with (first|(refine a3w rfl rfl rfl rfl hst6 ?_)|(refine a3w rfl rfl rfl rfl hst7 ?_)|(refine d3i rfl rfl rfl hld ?_)|(go_at_call 29;refine (g2a hS k17 gg [g0,g1] r1 _ _ _ _ q1 (Ow.rd _ q2 fun q hq=>Ow.lt _ q2 q hq)).mono ?_))
 rintro _ w8 ⟨rfl,k18⟩
 have k19:=a6i (Z:=fun _=>False) k17 k18 (fun _ _ q=>q) fun _ _ q=>q
 have e18:=(k18.block _ (Array.getElem?_eq_some_iff.1 e16).1 id).trans e16
 have e19:=(k18.block _ (Array.getElem?_eq_some_iff.1 q1).1 id).trans q1
 rw[hokA]
 cases hiA:isP gg (trA gg p ks ru)
 ·obtain⟨w9,hst,e20,k20,_⟩:=d3g (cs:=zC) (l:=zC) e18 rfl rfl e3w
  go_wp2_with (first|(refine a3w rfl rfl rfl rfl hst ?_))
  refine b9r rfl rfl e20 rfl rfl ?_
  rw[←hPo]
  exact d6r hS (a6i k19 k20 (fun _ _ q=>q) (fun i h q=>by omega)) (T.c hok hat hru (by rw[hT];exact hrw) hiA) (f4u (by decide))
 ·have hone8:∀ u∈c8,u.oneCell'=true:=Rd.oneCells (S:=fun b=>b∈f8) (τ := .st .prog) (x:=trA gg p ks ru) (Ow.rd _ q2 fun b hb=>hb)
  obtain⟨w9,hst,e20,k20,_⟩:=d3g (cs:=c8) (l:=zC) e18 rfl q4 hone8
  have hld8:=g3c e19 q4
  go_wp2_with (first|(refine a3w rfl rfl rfl rfl hst ?_)|(refine d3i rfl rfl rfl hld8 ?_))
  refine b9r rfl rfl e20 q4 rfl ?_
  rw[←hPo]
  have k21:=a6i (Z:=fun _=>False) k19 k20 (fun _ _ q=>q) (fun i h q=>by omega)
  have hd:=T.d hok hat hru (by rw[hT];exact hrw) hiA
  refine⟨_,fun b=>S b∨(w.heap.size≤b∧b<w9.heap.size),_,rfl,rfl,k21,fun b hb=>⟨fun h=>h.elim id fun h=>absurd h.1 (by omega), .inl⟩,fun b h=>h.elim (fun h=>Nat.lt_of_lt_of_le (hS.1 b h) k21.size) fun h=>h.2,[_,_],rfl,⟨c8,rfl,?_⟩,?_,trivial⟩
  ·rw[hd.1]
   have hlt:=fun q hq=>Ow.lt _ q2 q hq
   have hs18:=k18.size
   have hs20:=k20.size
   refine Ow.rd _ (q2.keep _ fun q hq=>(k20.block q (by have:=hlt q hq;omega) (by have:=q3 q hq;omega)).trans (k18.block q (hlt q hq) id)) fun q hq => .inr ⟨by have:=q3 q hq;omega,by have:=hlt q hq;omega⟩
  ·rw[hd.2]
   exact⟨rfl,f4u (by decide)⟩
def b5z:Ctr:=⟨b6d,[.v (.st .sig), .v (.st .prog), .v (.slice (.int .i64)), .v (.int .i64)],fun (gg:a0l) (p:a0a) (ks:List Int) (ru:Int)=>⟨(none,[⟨(.st .prog),trV gg p ks ru⟩,⟨(.int .i64),trC gg p ks ru⟩])⟩⟩
theorem e0d:Ctr.Good b5z :=
 ⟨a0j e4q rfl (by decide),fun gg p ks ru _=>g8q gg p ks ru⟩
end
end Go.Proofs.Ytlaoejdeanljgaa

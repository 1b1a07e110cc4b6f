/- The text of an automaton, walked by hand. Printed by vmk.py. -/
import Derived.Test.YtmdefiphdgcijaaDoorVmUse
import Derived.Test.YtmdefiphdgcijaaDoorVmLib
import Derived.Test.YtmdefiphdgcijaaDoorVmWe
import Derived.Test.YtmdefiphdgcijaaDoorVmBw
import Derived.Test.YtmdefiphdgcijaaDoorVmASplit
import Derived.Test.YtmdefiphdgcijaaDoorVmAuto2
import Derived.WalkKit
import Derived.LoopTactic
import Derived.StillTailTactics
import Derived.BigQuiet
set_option linter.unusedVariables false
set_option linter.unusedSimpArgs false
set_option linter.unusedSectionVars false
set_option maxRecDepth 4000
set_option maxHeartbeats 4000000
namespace Go.Proofs.YtmdefiphdgcijaaDoor
noncomputable section
open Go.RowKit Go.Proofs
def tI(a:a0b)(i:Nat):List UInt8:=hdT a.sig++[10]++a2c (fun p=>stT p++[10]) ((a.accept.zip a.next).take i)
def tM(a:a0b)(i k:Nat):List UInt8:=tI a i++[115,116,97,116,101]++a2c b7x (((a.accept.getD i []).zip (a.next.getD i [])).take k)
def tX(a:a0b)(i k x:Nat):List UInt8:=tM a i k++32::sgD ((a.accept.getD i []).getD k false)++a2c b4u (((a.next.getD i []).getD k []).take x)
theorem f1e(a:a0b):hdT a.sig++[10]=tI a 0:=by unfold tI;rw[c8u,List.append_nil]
theorem f2j(a:a0b)(i:Nat):tI a i++[115,116,97,116,101]=tM a i 0:=by unfold tM;rw[c8u,List.append_nil]
theorem f2l(a:a0b)(i k:Nat):tM a i k++32::sgD ((a.accept.getD i []).getD k false)=tX a i k 0:=by unfold tX;rw[c8u,List.append_nil]
theorem f1h(a:a0b)(i k x:Nat)(h:x<((a.next.getD i []).getD k []).length):tX a i k x++58::a2u (((a.next.getD i []).getD k []).getD x 0)=tX a i k (x+1):=by
 unfold tX
 rw[c8t b4u 0 _ x h,←List.append_assoc];rfl
theorem d2b{α β:Type}(y:α)(z:β)(xs:List α)(ys:List β)(h:xs.length=ys.length)(i:Nat)(hi:i<xs.length):(xs.zip ys).getD i (y,z)=(xs.getD i y,ys.getD i z):=by
 have h1:i<(xs.zip ys).length:=by rw[List.length_zip];omega
 rw[List.getD_eq_getElem?_getD,List.getElem?_eq_getElem h1,List.getD_eq_getElem?_getD,List.getElem?_eq_getElem hi,List.getD_eq_getElem?_getD,List.getElem?_eq_getElem (show i<ys.length by omega)]
 simp
structure ATx(a:a0b):Prop where
 s:AOk a
 len:∀ i,i<a.accept.length→(a.accept.getD i []).length=(a.next.getD i []).length∧(a.accept.getD i []).length≤8
 pos:∀ i,i<a.accept.length→0<(a.accept.getD i []).length
 row:∀ i k,i<a.accept.length→k<(a.accept.getD i []).length→((a.next.getD i []).getD k []).length≤4
 cell:∀ i k x,i<a.accept.length→k<(a.accept.getD i []).length→x<((a.next.getD i []).getD k []).length → -1≤((a.next.getD i []).getD k []).getD x 0∧((a.next.getD i []).getD k []).getD x 0≤59
theorem e8u(a:a0b)(h:aOk a=true):ATx a:=by
 have A:=d4t a h
 have hm:∀ i,i<a.accept.length→(a.accept.getD i [],a.next.getD i [])∈a.accept.zip a.next:=fun i hi=>by
  rw[←d2b [] [] a.accept a.next A.nx.symm i hi]
  exact b0s _ _ _ (by simp[A.nx];omega)
 refine⟨A,fun i hi=>?_,fun i hi=>?_,fun i k hi hk=>?_,fun i k x hi hk hx=>?_⟩
 ·have:=A.st _ (hm i hi)
  have hl:=a3u a.sig A.t
  exact⟨this.1,by have:=this.2.1;simp only at this;omega⟩
 ·have:=A.st _ (hm i hi)
  have hl:=a3u a.sig A.t
  have:=this.2.1;simp only at this;omega
 ·have q:=A.st _ (hm i hi)
  have:=(q.2.2 _ (b0s [] (a.next.getD i []) k (by have:=q.1;simp only at this;omega))).2
  have:=A.c.2;omega
 ·have q:=A.st _ (hm i hi)
  exact (q.2.2 _ (b0s [] (a.next.getD i []) k (by have:=q.1;simp only at this;omega))).1 _ (b0s 0 _ x hx)
theorem f1g(a:a0b)(T:ATx a)(i k x:Nat)(hi:i<a.accept.length)(hk:k<(a.accept.getD i []).length)(h:((a.next.getD i []).getD k []).length≤x):tX a i k x=tM a i (k+1):=by
 unfold tX tM
 rw[d3m b4u _ x h,c8t b7x (false,[]) _ k (by have:=(T.len i hi).1;rw[List.length_zip];omega),d2b false [] _ _ (T.len i hi).1 k hk]
 simp[b7x,a6g]
theorem f2k(a:a0b)(T:ATx a)(i k:Nat)(hi:i<a.accept.length)(h:(a.accept.getD i []).length≤k):tM a i k++[10]=tI a (i+1):=by
 unfold tM tI
 rw[d3m b7x _ k (by rw[List.length_zip];omega),c8t (fun p=>stT p++[10]) ([],[]) _ i (by have:=T.s.nx;simp;omega),d2b [] [] _ _ T.s.nx.symm i hi]
 simp[stT]
theorem f1f(a:a0b)(i:Nat)(h:a.accept.length≤i):tI a i=atx a:=by
 unfold tI atx
 rw[d3m _ _ i (by simp;omega)];simp
theorem e0t(n:Int)(h : -1≤n∧n≤59):(b4u n).length≤3:=by
 have:=(b4b n h).2.2.2.1
 simp only[b4u,List.length_cons];omega
theorem e6r(b:Bool):(sgD b).length=1:=by cases b<;>rfl
theorem e1p{α:Type}{xs:List α}{k:Nat}{x:α}(h:x∈xs.take k):x∈xs:=List.mem_of_mem_take h
theorem e2x(p:Bool×List Int)(h:rIn p.2)(h4:p.2.length≤4):(b7x p).length≤14:=by
 have:=b6h b4u 3 p.2 fun x hx=>e0t x (h x hx)
 have:=e6r p.1
 simp only[b7x,a6g,List.length_cons,List.length_append];omega
theorem f1d(p:List Bool×List (List Int))(hl:p.1.length≤8)(h:∀ r∈p.2,rIn r∧r.length≤4):(stT p++[10]).length≤118:=by
 have:=b6h b7x 14 (p.1.zip p.2) fun q hq=>e2x q (h q.2 (List.of_mem_zip hq).2).1 (h q.2 (List.of_mem_zip hq).2).2
 have:(p.1.zip p.2).length≤8:=by simp;omega
 simp only[stT,List.length_append,List.length_cons,List.length_nil];omega
theorem e9b(a:a0b)(T:ATx a):(∀ i,(tI a i).length≤7200)∧(∀ i k,i<a.accept.length→(tM a i k).length≤7400)∧(∀ i k x,i<a.accept.length→k<(a.accept.getD i []).length→(tX a i k x).length≤7500):=by
 have A:=T.s
 have hp:∀ p∈a.accept.zip a.next,p.1.length≤8∧∀ r∈p.2,rIn r∧r.length≤4:=fun p hp=>by
  have q:=A.st p hp
  have hl:=a3u a.sig A.t
  refine⟨by have:=q.2.1;omega,fun r hr=>⟨(q.2.2 r hr).1,by have:=(q.2.2 r hr).2;have:=A.c.2;omega⟩⟩
 have d1:=(b4v a.sig.tests ⟨A.t.1,by have:=A.t.2;omega⟩).len
 have d2:=(b4v a.sig.actions ⟨A.c.1,by have:=A.c.2;omega⟩).len
 have hI:∀ i,(tI a i).length≤7200:=fun i=>by
  have:=b6h (fun p=>stT p++[10]) 118 ((a.accept.zip a.next).take i) fun p h=>f1d p (hp p (e1p h)).1 (hp p (e1p h)).2
  have:((a.accept.zip a.next).take i).length≤60:=by have:=A.n2;simp;omega
  simp only[tI,hdT,List.length_append,List.length_cons,List.length_nil];omega
 have hm:∀ i,i<a.accept.length→(a.accept.getD i [],a.next.getD i [])∈a.accept.zip a.next:=fun i hi=>by
  rw[←d2b [] [] a.accept a.next A.nx.symm i hi]
  exact b0s _ _ _ (by simp[A.nx];omega)
 have hM:∀ i k,i<a.accept.length→(tM a i k).length≤7400:=fun i k hi=>by
  have hh:=hp _ (hm i hi)
  have:=b6h b7x 14 (((a.accept.getD i []).zip (a.next.getD i [])).take k) fun q hq=>e2x q (hh.2 q.2 (List.of_mem_zip (e1p hq)).2).1 (hh.2 q.2 (List.of_mem_zip (e1p hq)).2).2
  have:(((a.accept.getD i []).zip (a.next.getD i [])).take k).length≤8:=by have:=hh.1;rw[List.length_take,List.length_zip];simp only at this;omega
  have:=hI i
  simp only[tM,List.length_append,List.length_cons,List.length_nil];omega
 refine⟨hI,hM,fun i k x hi hk=>?_⟩
 have:=hM i k hi
 have hr:=(hp _ (hm i hi)).2 _ (b0s [] (a.next.getD i []) k (by have:=(T.len i hi).1;omega))
 have:=b6h b4u 3 (((a.next.getD i []).getD k []).take x) fun y hy=>e0t y (hr.1 y (e1p hy))
 have:(((a.next.getD i []).getD k []).take x).length≤4:=by have:=hr.2;rw[List.length_take];omega
 have:=e6r ((a.accept.getD i []).getD k false)
 simp only[tX,List.length_append,List.length_cons];omega
def Ls(w:World)(S:Nat→Prop)(L:List D)(v:Value):Prop:=∃ p cap,v = .slice p L.length cap∧(L=[]∨∃ b o,p=some ⟨b,o,none⟩∧S b∧a1q w S L b o)
theorem d6f{w:World}{S:Nat→Prop}{n:Nat}{L:List D}{v:Value}(h:Rd w S (.slice n L) [v]):Ls w S L v:=by
 obtain⟨p,cap,h1,_,_,_,h5⟩:=(show ∃ a cap,[v]=[.slice a L.length cap]∧L.length≤cap∧cap≤maxLen∧L.length≤140737488355328∧(L=[]∨∃ b o,a=some ⟨b,o,none⟩∧S b∧a1q w S L b o) from h)
 simp only[List.cons.injEq,and_true] at h1
 exact⟨p,cap,h1,h5⟩
theorem f0a{w:World}{S:Nat→Prop}{a:a0b}{cs:List Value}(h:Rd w S a.toD cs):∃ v1 v2,cs=[.int .i64 a.sig.tests, .int .i64 a.sig.actions,v1,v2] ∧
  Ls w S (a.accept.map fun y=>D.slice 1 (y.map fun y=>D.bool y)) v1∧Ls w S (a.next.map fun y=>D.slice 1 (y.map fun y=>D.slice 1 (y.map fun y=>D.int .i64 y))) v2:=by
 simp only[a0b.toD,Rd,a1r] at h
 obtain⟨u0,r0,rfl,⟨h0,_⟩,u1,r1,rfl,⟨h1,_⟩,u2,r2,rfl,h2,u3,r3,rfl,h3,rfl⟩:=h
 simp only[List.cons.injEq,and_true] at h0 h1
 subst h0 h1
 exact⟨u2,u3,rfl,d6f (n:=1) h2,d6f (n:=1) h3⟩
theorem c4v{α:Type}(f:α→D)(z:α)(xs:List α)(i:Nat)(h:i<xs.length):(xs.map f)[i]?=some (f (xs.getD i z)):=by
 simp[List.getElem?_map,List.getD_eq_getElem?_getD,h]
theorem b4e{B:Nat}{w w1:World}(h:Below B w w1){b o:Nat}(hb:b<B){v:Value}(hc:w.cell? ⟨b,o,none⟩=some v):w1.cell? ⟨b,o,none⟩=some v:=by
 rw[←hc];exact World.cell?_of_block (a:=⟨b,o,none⟩) (h.block b hb)
theorem c5j{w:World}{S:Nat→Prop}{L:List D}{b o:Nat}(h:a1q w S L b o)(h1:∀ d∈L,d.size=1)(i:Nat)(d:D)(hd:L[i]?=some d):∃ u,Rd w S d [u]∧w.cell? ⟨b,o+i,none⟩=some u:=by
 obtain⟨cs,q1,q2,q3⟩:=a1q.at_ (n:=1) L b o h h1 i d hd
 match cs,q1 with
 | [u],_=>exact⟨u,q2,by have:=q3 0 u rfl;simpa using this⟩
theorem d6g{w:World}{S:Nat→Prop}{L:List D}{v:Value}(h:Ls w S L v)(n:Nat)(hl:L.length=n)(hn:0<n):∃ b o cap,v = .slice (some ⟨b,o,none⟩) n cap∧S b∧a1q w S L b o:=by
 obtain⟨p,cap,rfl,h5⟩:=h
 rcases h5 with h5|⟨b,o,rfl,hb,hr⟩
 ·rw[h5] at hl;simp at hl;omega
 ·exact⟨b,o,cap,by rw[hl],hb,hr⟩
theorem sz1{α:Type}(f:α→D)(h:∀ x,(f x).size=1)(xs:List α):∀ d∈xs.map f,d.size=1:=fun d hd=>by obtain⟨x,_,rfl⟩:=List.mem_map.1 hd;exact h x
def tN:Value→Nat
 | .int _ k=>k.toNat
 | _=>0
set_option maxRecDepth 100000 in
theorem e3q(a:a0b)(w:World)(S:Nat→Prop)(hS:∀ b,S b→b<w.heap.size)(hok:aOk a=true)(cs:List Value)(hr:Rd w S a.toD cs) :
  Calls Tryd.prog 18 #[.agg cs.toArray] w fun e w'=>e = .returned (.string ⟨(atx a).toArray⟩)∧Below w.heap.size w w':=by
 have T:=e8u a hok
 obtain⟨L1,L2,L3⟩:=e9b a T
 obtain⟨v1,v2,rfl,l1,l2⟩:=f0a hr
 clear hr
 obtain⟨b1,o1,cp1,rfl,hb1,r1⟩:=d6g l1 a.accept.length (by simp) T.s.n1
 obtain⟨b2,o2,cp2,rfl,hb2,r2⟩:=d6g l2 a.accept.length (by simpa using T.s.nx) T.s.n1
 clear l1 l2
 have z1:=sz1 (fun y:List Bool=>D.slice 1 (y.map fun y=>D.bool y)) (fun _=>rfl) a.accept
 have z2:=sz1 (fun y:List (List Int)=>D.slice 1 (y.map fun y=>D.slice 1 (y.map fun y=>D.int .i64 y))) (fun _=>rfl) a.next
 have hI:∀ o:Obj,IsB (w.heap.size+1) (w.heap.size+1) [] ((w.alloc o).alloc (.cells #[.pointer none, .slice none 0 0] 64)):=fun o=>by
  have:=Lib.fresh_isBuilder 64 5 (w.alloc o)
  rw[show (w.alloc o).heap.size=w.heap.size+1 by simp] at this
  exact this
 have A:=T.s
 obtain⟨n1,hn1⟩:∃ n:Nat,a.sig.tests=n:=⟨a.sig.tests.toNat,by have:=A.t.1;omega⟩
 obtain⟨n2,hn2⟩:∃ n:Nat,a.sig.actions=n:=⟨a.sig.actions.toNat,by have:=A.c.1;omega⟩
 have m1:n1<100:=by have:=A.t.2;omega
 have m2:n2<100:=by have:=A.c.2;omega
 have d1:(Lib.decDigits n1).length≤2:=by have:=(b4v a.sig.tests ⟨A.t.1,by have:=A.t.2;omega⟩).len;rw[hn1] at this;exact this
 have d2:(Lib.decDigits n2).length≤2:=by have:=(b4v a.sig.actions ⟨A.c.1,by have:=A.c.2;omega⟩).len;rw[hn2] at this;exact this
 rw[hn1,hn2]
 go_enter Tryd.func18,Tryd.ntmps18
 go_wp2
 have hI0:=hI (.cells #[.int .i64 n1, .int .i64 n2,(.slice (some ⟨b1,o1,none⟩) a.accept.length cp1),(.slice (some ⟨b2,o2,none⟩) a.accept.length cp2)] 27)
 have hk0:Below w.heap.size w ((w.alloc (.cells #[.int .i64 n1, .int .i64 n2,(.slice (some ⟨b1,o1,none⟩) a.accept.length cp1),(.slice (some ⟨b2,o2,none⟩) a.accept.length cp2)] 27)).alloc (.cells #[.pointer none, .slice none 0 0] 64)):=((Below.refl _ w).alloc (Nat.le_refl _) _).alloc (by simp) _
 have hx0:((w.alloc (.cells #[.int .i64 n1, .int .i64 n2,(.slice (some ⟨b1,o1,none⟩) a.accept.length cp1),(.slice (some ⟨b2,o2,none⟩) a.accept.length cp2)] 27)).alloc (.cells #[.pointer none, .slice none 0 0] 64)).heap[w.heap.size]?=some (.cells #[.int .i64 n1, .int .i64 n2,(.slice (some ⟨b1,o1,none⟩) a.accept.length cp1),(.slice (some ⟨b2,o2,none⟩) a.accept.length cp2)] 27 (0,0)):=by
  rw[Lib.alloc_old _ _ _ (by simp)];exact heap_alloc_new w _
 have hz0:((w.alloc (.cells #[.int .i64 n1, .int .i64 n2,(.slice (some ⟨b1,o1,none⟩) a.accept.length cp1),(.slice (some ⟨b2,o2,none⟩) a.accept.length cp2)] 27)).alloc (.cells #[.pointer none, .slice none 0 0] 64)).heap.size=w.heap.size+2:=by simp
 revert hI0 hk0 hx0 hz0
 generalize hW:((w.alloc (.cells #[.int .i64 n1, .int .i64 n2,(.slice (some ⟨b1,o1,none⟩) a.accept.length cp1),(.slice (some ⟨b2,o2,none⟩) a.accept.length cp2)] 27)).alloc (.cells #[.pointer none, .slice none 0 0] 64))=W
 intro hI0 hk0 hx0 hz0
 clear hI hW
 have c0:W.cell? ⟨w.heap.size,0,none⟩=some (.int .i64 n1):=by rw[Lib.cell_of_heap hx0];rfl
 have c1:W.cell? ⟨w.heap.size,1,none⟩=some (.int .i64 n2):=by rw[Lib.cell_of_heap hx0];rfl
 have hI1:IsB (w.heap.size+1) (w.heap.size+1) [] { W with drawn:=W.drawn+1 }:=hI0
 have hk1:Below w.heap.size w { W with drawn:=W.drawn+1 }:=⟨hk0.os,hk0.tape,hk0.output,hk0.size,hk0.block⟩
 have hx1:({ W with drawn:=W.drawn+1 }:World).heap[w.heap.size]?=some (.cells #[.int .i64 n1, .int .i64 n2,(.slice (some ⟨b1,o1,none⟩) a.accept.length cp1),(.slice (some ⟨b2,o2,none⟩) a.accept.length cp2)] 27 (0,0)):=hx0
 have hz1:({ W with drawn:=W.drawn+1 }:World).heap.size=w.heap.size+2:=hz0
 go_still_tail 12,(by kernel_rfl)
 still_call (b2z n1 m1 _)
 refine wpStill_step (fun K hK=>?_);go_simp;rw[if_neg];rotate_left
 ·omega
 refine⟨rfl,hK _ ?_⟩;clear hK K
 refine wpStill_step (fun K hK=>?_);go_simp;rw[if_neg];rotate_left
 ·omega
 refine⟨rfl,hK _ ?_⟩;clear hK K
 repeat still_step
 still_call (b2z n2 m2 _)
 refine wpStill_step (fun K hK=>?_);go_simp;rw[if_neg];rotate_left
 ·omega
 refine⟨rfl,hK _ ?_⟩;clear hK K
 refine wpStill_step (fun K hK=>?_);go_simp;rw[if_neg];rotate_left
 ·omega
 refine⟨rfl,hK _ ?_⟩;clear hK K
 refine wpStill_nil ?_
 revert hI1 hk1 hx1 hz1
 generalize ({ W with drawn:=W.drawn+1 }:World)=W1
 intro hI1 hk1 hx1 hz1
 clear hI0 hk0 hx0 hz0 c0 c1
 have q0:=L1 0
 have q1:(hdT a.sig++[10]).length≤7200:=by rw[f1e];exact q0
 go_wp2_with (go_at_call 33;refine (ws (w.heap.size+1) (w.heap.size+1) [] _ _ hI1 (by simp;simp[hdT,dig,hn1,hn2] at q1;omega) (by omega)).mono ?_)
 rintro e w1 ⟨he,h1⟩;subst he
 have t0:(({ data := #[97,117,116,111,109,97,116,111,110,32] }++{ data:=(Lib.decDigits n1).toArray }++{ data := #[32] }++{ data:=(Lib.decDigits n2).toArray }++{ data := #[10] }:ByteArray)).data.toList=tI a 0:=by
  rw[←f1e];simp[hdT,dig,hn1,hn2]
 rw[t0] at h1
 clear t0 q0 q1 d1 d2 m1 m2
 have KX:∀ {t:List UInt8} {wr:World},Wr (w.heap.size+1) (w.heap.size+1) [] t W1 wr→wr.cell? ⟨w.heap.size,2,none⟩=some (.slice (some ⟨b1,o1,none⟩) a.accept.length cp1)∧wr.cell? ⟨w.heap.size,3,none⟩=some (.slice (some ⟨b2,o2,none⟩) a.accept.length cp2)∧Below w.heap.size w wr∧w.heap.size+1≤wr.heap.size:=fun {t wr} h=>by
  have e:=(h.keep _ _ _ _ hx1 (by decide) (by omega)).trans hx1
  refine⟨by rw[Lib.cell_of_heap e];rfl,by rw[Lib.cell_of_heap e];rfl,hk1.trans (h.bel.mono (Nat.le_succ _)),?_⟩
  have:=h.bel.size
  omega
 obtain⟨x1,x2,x3,x4⟩:=KX h1
 go_wp2
 go_loopw [27] (fun t wr=>∃ i:Nat,t = .int .i64 i∧i≤a.accept.length∧Wr (w.heap.size+1) (w.heap.size+1) [] (tI a i) W1 wr) (fun t wr=>a.accept.length - tN t)
 ·exact⟨0,rfl,Nat.zero_le _,h1⟩
 obtain⟨i,rfl,hi,hw⟩:=hrel
 clear x1 x2 x3 x4 h1
 obtain⟨x1,x2,x3,x4⟩:=KX hw
 have hwI:IsB (w.heap.size+1) (w.heap.size+1) (tI a i) wr:=hw.isb
 have li:=L1 i
 by_cases hlt:i<a.accept.length
 ·obtain⟨u,hu,cu⟩:=c5j r1 z1 i _ (c4v _ [] a.accept i hlt)
  obtain⟨b3,o3,cp3,rfl,hb3,r3⟩:=d6g (d6f hu) (a.accept.getD i []).length (by simp) (T.pos i hlt)
  obtain⟨u',hu',cu'⟩:=c5j r2 z2 i _ (c4v _ [] a.next i (by rw[A.nx];exact hlt))
  obtain⟨b4,o4,cp4,rfl,hb4,r4⟩:=d6g (d6f hu') (a.accept.getD i []).length (by rw[List.length_map,(T.len i hlt).1]) (T.pos i hlt)
  clear hu hu'
  have z3:=sz1 (fun y:Bool=>D.bool y) (fun _=>rfl) (a.accept.getD i [])
  have z4:=sz1 (fun y:List Int=>D.slice 1 (y.map fun y=>D.int .i64 y)) (fun _=>rfl) (a.next.getD i [])
  have y1:=b4e x3 (hS _ hb1) cu
  have y2:∀ {wr':World},Below w.heap.size w wr'→wr'.cell? ⟨b2,o2+i,none⟩=some (.slice (some ⟨b4,o4,none⟩) (a.accept.getD i []).length cp4):=fun h=>b4e h (hS _ hb2) cu'
  have hl8:=(T.len i hlt).2
  have hln:=(T.len i hlt).1.symm
  clear cu cu'
  generalize hm:(a.accept.getD i []).length=m at *
  go_wp2_with (go_at_call 33;refine (ws (w.heap.size+1) (w.heap.size+1) (tI a i) _ _ hwI (by simp;omega) (by omega)).mono ?_)
  first|(rintro e w2 ⟨he,h2⟩;subst he)|(intro e w2 he h2;subst he)
  have hM:=hw.trans (show Wr _ _ ([]++tI a i) _ _ _ from h2)
  rw[f2j] at hM
  clear h2 hwI x1 x2 x3 x4 hw li
  go_wp2
  go_loopw [35] (fun t wr=>∃ k:Nat,t = .int .i64 k∧k≤m∧Wr (w.heap.size+1) (w.heap.size+1) [] (tM a i k) W1 wr) (fun t wr=>m - tN t)
  ·exact⟨0,rfl,Nat.zero_le _,hM⟩
  clear hM
  obtain⟨k,rfl,hk,hw⟩:=hrel
  obtain⟨x1,x2,x3,x4⟩:=KX hw
  have hwI:=hw.isb
  have li:=L2 i k hlt
  by_cases hkl:k<m
  ·obtain⟨u,hu,cu⟩:=c5j r3 z3 k _ (c4v _ false (a.accept.getD i []) k (by omega))
   have hu:[u]=[.bool ((a.accept.getD i []).getD k false)]:=hu
   simp only[List.cons.injEq,and_true] at hu
   subst hu
   obtain⟨u',hu',cu'⟩:=c5j r4 z4 k _ (c4v _ [] (a.next.getD i []) k (by omega))
   obtain⟨p5,cp5,rfl,r5⟩:=d6f hu'
   clear hu'
   rw[List.length_map] at cu'
   have y3:=b4e x3 (hS _ hb3) cu
   have y4:∀ {wr':World},Below w.heap.size w wr'→wr'.cell? ⟨b4,o4+k,none⟩=some (.slice p5 ((a.next.getD i []).getD k []).length cp5):=fun h=>b4e h (hS _ hb4) cu'
   clear cu cu'
   have hts:=f2l a i k
   have hL3:=L3 i k
   have hcell:=T.cell i k
   have hrow:=T.row i k hlt (by omega)
   rw[hm] at hL3 hcell
   generalize hq:((a.next.getD i []).getD k []).length=q at *
   generalize hB:(a.accept.getD i []).getD k false=bb at *
   cases bb
   ·go_wp2_with (go_at_call 33;refine (ws (w.heap.size+1) (w.heap.size+1) (tM a i k) _ _ hwI (by simp;omega) (by omega)).mono ?_)
    first|(rintro e w2 ⟨he,h2⟩;subst he)|(intro e w2 he h2;subst he)
    have hX:=hw.trans (show Wr _ _ ([]++tM a i k) _ _ _ from h2)
    rw[show ([32,45]:List UInt8)=32::sgD false from rfl,hts] at hX
    clear h2 hwI hw x1 x2 x3 x4 li y3 hts
    obtain⟨x1,x2,x3,x4⟩:=KX hX
    have y5:=y2 x3
    have y6:=y4 x3
    go_wp2
    go_loopw [52] (fun t wr=>∃ x:Nat,t = .int .i64 x∧x≤q∧Wr (w.heap.size+1) (w.heap.size+1) [] (tX a i k x) W1 wr) (fun t wr=>q - tN t)
    ·exact⟨0,rfl,Nat.zero_le _,hX⟩
    clear hX x1 x2 x3 x4 y5 y6
    obtain⟨x,rfl,hx,hw⟩:=hrel
    obtain⟨x1,x2,x3,x4⟩:=KX hw
    have hwI:=hw.isb
    have li:=hL3 x hlt hkl
    by_cases hxq:x<q
    ·obtain⟨b5,o5,rfl,hb5,r6⟩:∃ b5 o5,p5=some ⟨b5,o5,none⟩∧S b5∧a1q w S (((a.next.getD i []).getD k []).map fun y=>D.int .i64 y) b5 o5:=by
      rcases r5 with r5|r5
      ·rw[List.map_eq_nil_iff] at r5
       rw[r5] at hq;simp at hq;omega
      ·exact r5
     obtain⟨u,hu,cu⟩:=c5j r6 (sz1 (fun y:Int=>D.int .i64 y) (fun _=>rfl) _) x _ (c4v _ 0 ((a.next.getD i []).getD k []) x (by omega))
     have hu:[u]=[.int .i64 (((a.next.getD i []).getD k []).getD x 0)]:=hu.1
     simp only[List.cons.injEq,and_true] at hu
     subst hu
     have y7:=b4e x3 (hS _ hb5) cu
     obtain⟨e1,e2⟩:=hcell x hlt hkl hxq
     have hXs:=f1h a i k x (by omega)
     clear cu hcell
     generalize ((a.next.getD i []).getD k []).getD x 0=z at *
     by_cases hz:z<0
     ·go_wp2_with (go_at_call 33;refine (ws (w.heap.size+1) (w.heap.size+1) (tX a i k x) _ _ hwI (by simp;omega) (by omega)).mono ?_)
      first|(rintro e w2 ⟨he,h2⟩;subst he)|(intro e w2 he h2;subst he)
      have hX:=hw.trans (show Wr _ _ ([]++tX a i k x) _ _ _ from h2)
      rw[show ([58,46]:List UInt8)=58::a2u z from by unfold a2u;rw[decide_eq_true hz];rfl,hXs] at hX
      go_wp2
      refine⟨⟨x+1,rfl,by omega,hX⟩,?_⟩
      simp only[tN];omega
     ·obtain⟨n,rfl⟩:∃ n:Nat,z=n:=⟨z.toNat,by omega⟩
      have d3:(Lib.decDigits n).length≤2:=(b4v (n:Int) ⟨by omega,by omega⟩).len
      have dd:∀ w',Calls Tryd.prog 34 #[.int .i64 n] w' fun e w''=>e = .returned (.string ⟨(Lib.decDigits n).toArray⟩)∧w''=w':=fun w'=>b2z n (by omega) w'
      go_wp2_with (go_at_call 34;refine (dd _).mono ?_)
      refine (ws (w.heap.size+1) (w.heap.size+1) (tX a i k x) _ _ hwI (by simp;omega) (by omega)).mono ?_
      first|(rintro e w2 ⟨he,h2⟩;subst he)|(intro e w2 he h2;subst he)
      have hX:=hw.trans (show Wr _ _ ([]++tX a i k x) _ _ _ from h2)
      rw[show (({ data := #[58] }++{ data:=(Lib.decDigits n).toArray }:ByteArray)).data.toList=58::a2u (n:Int) from by unfold a2u dig;rw[decide_eq_false (by omega)];simp,hXs] at hX
      go_wp2
      refine⟨⟨x+1,rfl,by omega,hX⟩,?_⟩
      simp only[tN];omega
    ·rw[f1g a T i k x hlt (by omega) (by omega)] at hw
     go_wp2
     refine⟨⟨k+1,rfl,by omega,hw⟩,?_⟩
     simp only[tN];omega
   ·go_wp2_with (go_at_call 33;refine (ws (w.heap.size+1) (w.heap.size+1) (tM a i k) _ _ hwI (by simp;omega) (by omega)).mono ?_)
    first|(rintro e w2 ⟨he,h2⟩;subst he)|(intro e w2 he h2;subst he)
    have hX:=hw.trans (show Wr _ _ ([]++tM a i k) _ _ _ from h2)
    rw[show ([32,43]:List UInt8)=32::sgD true from rfl,hts] at hX
    clear h2 hwI hw x1 x2 x3 x4 li y3 hts
    obtain⟨x1,x2,x3,x4⟩:=KX hX
    have y5:=y2 x3
    have y6:=y4 x3
    go_wp2
    go_loopw [52] (fun t wr=>∃ x:Nat,t = .int .i64 x∧x≤q∧Wr (w.heap.size+1) (w.heap.size+1) [] (tX a i k x) W1 wr) (fun t wr=>q - tN t)
    ·exact⟨0,rfl,Nat.zero_le _,hX⟩
    clear hX x1 x2 x3 x4 y5 y6
    obtain⟨x,rfl,hx,hw⟩:=hrel
    obtain⟨x1,x2,x3,x4⟩:=KX hw
    have hwI:=hw.isb
    have li:=hL3 x hlt hkl
    by_cases hxq:x<q
    ·obtain⟨b5,o5,rfl,hb5,r6⟩:∃ b5 o5,p5=some ⟨b5,o5,none⟩∧S b5∧a1q w S (((a.next.getD i []).getD k []).map fun y=>D.int .i64 y) b5 o5:=by
      rcases r5 with r5|r5
      ·rw[List.map_eq_nil_iff] at r5
       rw[r5] at hq;simp at hq;omega
      ·exact r5
     obtain⟨u,hu,cu⟩:=c5j r6 (sz1 (fun y:Int=>D.int .i64 y) (fun _=>rfl) _) x _ (c4v _ 0 ((a.next.getD i []).getD k []) x (by omega))
     have hu:[u]=[.int .i64 (((a.next.getD i []).getD k []).getD x 0)]:=hu.1
     simp only[List.cons.injEq,and_true] at hu
     subst hu
     have y7:=b4e x3 (hS _ hb5) cu
     obtain⟨e1,e2⟩:=hcell x hlt hkl hxq
     have hXs:=f1h a i k x (by omega)
     clear cu hcell
     generalize ((a.next.getD i []).getD k []).getD x 0=z at *
     by_cases hz:z<0
     ·go_wp2_with (go_at_call 33;refine (ws (w.heap.size+1) (w.heap.size+1) (tX a i k x) _ _ hwI (by simp;omega) (by omega)).mono ?_)
      first|(rintro e w2 ⟨he,h2⟩;subst he)|(intro e w2 he h2;subst he)
      have hX:=hw.trans (show Wr _ _ ([]++tX a i k x) _ _ _ from h2)
      rw[show ([58,46]:List UInt8)=58::a2u z from by unfold a2u;rw[decide_eq_true hz];rfl,hXs] at hX
      go_wp2
      refine⟨⟨x+1,rfl,by omega,hX⟩,?_⟩
      simp only[tN];omega
     ·obtain⟨n,rfl⟩:∃ n:Nat,z=n:=⟨z.toNat,by omega⟩
      have d3:(Lib.decDigits n).length≤2:=(b4v (n:Int) ⟨by omega,by omega⟩).len
      have dd:∀ w',Calls Tryd.prog 34 #[.int .i64 n] w' fun e w''=>e = .returned (.string ⟨(Lib.decDigits n).toArray⟩)∧w''=w':=fun w'=>b2z n (by omega) w'
      go_wp2_with (go_at_call 34;refine (dd _).mono ?_)
      refine (ws (w.heap.size+1) (w.heap.size+1) (tX a i k x) _ _ hwI (by simp;omega) (by omega)).mono ?_
      first|(rintro e w2 ⟨he,h2⟩;subst he)|(intro e w2 he h2;subst he)
      have hX:=hw.trans (show Wr _ _ ([]++tX a i k x) _ _ _ from h2)
      rw[show (({ data := #[58] }++{ data:=(Lib.decDigits n).toArray }:ByteArray)).data.toList=58::a2u (n:Int) from by unfold a2u dig;rw[decide_eq_false (by omega)];simp,hXs] at hX
      go_wp2
      refine⟨⟨x+1,rfl,by omega,hX⟩,?_⟩
      simp only[tN];omega
    ·rw[f1g a T i k x hlt (by omega) (by omega)] at hw
     go_wp2
     refine⟨⟨k+1,rfl,by omega,hw⟩,?_⟩
     simp only[tN];omega
  ·have hT:=f2k a T i k hlt (by omega)
   have hA60:=A.n2
   go_wp2_with (go_at_call 33;refine (ws (w.heap.size+1) (w.heap.size+1) (tM a i k) _ _ hwI (by simp;omega) (by omega)).mono ?_)
   first|(rintro e w2 ⟨he,h2⟩;subst he)|(intro e w2 he h2;subst he)
   have hX:=hw.trans (show Wr _ _ ([]++tM a i k) _ _ _ from h2)
   rw[hT] at hX
   go_wp2
   refine⟨⟨i+1,rfl,by omega,hX⟩,?_⟩
   simp only[tN];omega
 ·rw[f1f a i (by omega)] at hwI
  go_wp2_with (go_at_call 35;refine (Tryd.Builder_String_any (w.heap.size+1) (w.heap.size+1) (atx a) wr hwI x4).mono ?_)
  first|(rintro e w2 ⟨he,h2⟩;subst he)|(intro e w2 he h2;subst he)
  go_wp2
  go_ret
  exact⟨rfl,x3.trans (h2.mono (Nat.le_succ _))⟩
theorem e2h{w w':World}(h:Below w.heap.size w w'):a1p (fun _=>False) w w':=⟨h.os,h.tape,h.output,h.size,fun b hb _=>h.block b hb⟩
theorem f0x{w:World}{S:Nat→Prop}(l:List UInt8)(h:l.length≤140737488355328):RdV w S ⟨.str,l⟩ (.string ⟨l.toArray⟩) :=
 ⟨⟨l.toArray⟩,rfl,by simp,by simpa [ByteArray.size] using h⟩
def a6o:Ctr:=⟨b5d,[.v (.st .automaton)],fun (a:a0b)=>⟨(some (aOk a=true),[⟨.str,atx a⟩])⟩⟩
theorem c1k:Ctr.Good a6o:=by
 refine⟨a1g c3p rfl (by decide),?_⟩
 intro a hp w S vals ⟨hS,_⟩ ha
 match vals,ha with
 | [v],ha =>
  obtain⟨⟨cs,rfl,hr⟩,_⟩:=ha
  refine (e3q a w S hS hp cs hr).mono ?_
  rintro e w' ⟨rfl,hb⟩
  have hl:(atx a).length≤7200:=by
   have:=(e9b a (e8u a hp)).1 a.accept.length
   rw[f1f a _ (Nat.le_refl _)] at this;exact this
  exact⟨_,S,_,rfl,rfl,e2h hb,fun _ _=>Iff.rfl,fun b h=>Nat.lt_of_lt_of_le (hS b h) hb.size,f0x (w:=w') (S:=S) _ (by omega)⟩
end
end Go.Proofs.YtmdefiphdgcijaaDoor

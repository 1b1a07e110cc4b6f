/- VmISum, VmDImp, VmDSt, VmDSt2, VmDSt3, VmDSt4, VmCls, VmClsK, VmLst, VmCls2, VmCls3, VmClr, VmRch, VmRch2, VmDif. -/
import Derived.Test.YtncejbehidimmaaGreatDoorVmSort
import Derived.WalkKit
import Derived.LoopTactic
import Derived.OwnWalk
import Derived.Deep.RegionHeld3
import Derived.Deep.AppendLies
import Derived.Maps.AppendAt
import Derived.Deep.DeepCutAuto
import Derived.Deep.CutBlock
import Derived.Lib.SliceRun
import Derived.Deep.RegionWith
set_option linter.all false
set_option maxHeartbeats 4000000
set_option maxRecDepth 4000
namespace Go.Proofs.YtncejbehidimmaaGreatDoor
def b1q:=@List.findIdx_le_length
def b0C:=@List.findIdx_getElem
def b1h:=@Option.bind_none
def a9r:=@Option.bind_some
def b0t:=@List.findIdx_cons
def b0R:=@Nat.lt_trichotomy
def b1i:=@List.ext_getElem
def b0n:=@Nat.le_of_lt
def b0v:=@Bool.not_eq_true
def a9m:=@Bool.true_eq_false
def b1O:=@decide_eq_true_iff
def b1I:=@List.length_reverse
noncomputable section
open Go.RowKit Go.Proofs
def vI{P:Program}{w:World}{ops:Array Oper}{rest:List Oper}{o:Oper}{a:Act}{Q:Exit->Act->World->Prop}(hgd:o.guard=none)(s x:Operand)(t:TypeId)
  (ho:o.op = .call { callee := .builtin .append,args := #[s,x],argTypes := #[t,t] })
  (base:Nat) (e:TypeId) (i:TypeInfo) (z:Value) (size bytes:Nat) (ht:P.underlying t=some (.slice e)) (hi:P.info? e=some i) (hz:i.zero=some z)
  (vZ:i.size=size) (YS:i.bytes=bytes) (IK:z.cells.size=size) (bW:0<size)
  (v:Value) (n:Nat) (xs:List Value) (hs:a.eval s=v) (dA:w.ownsRow base e size v n xs)
  (ad:Addr) (m c:Nat) (news:List Value) (hx:a.eval x = .slice (some ad) m c) (hl:news.length=m * size) (yv:∀ j u,news[j]?=some u->w.cell? (ad.add j)=some u) (h1:∀ u∈news,u.oneCell'=true)
  (h63:n+m<=maxLen) (QS:(n+m) * bytes<=140737488355328) (IC:base<=w.heap.size)
  (h:∀ v' w',w'.ownsRow base e size v' (n+m) (xs++news)->w.grownBy w' v.ownBlock->(v'.ownBlock=v.ownBlock\/v'.ownBlock=some w.heap.size)->(v' = .slice none 0 0↔v = .slice none 0 0/\m=0)->wpList P ops Q rest (a.put o.dst v') w'):wpList P ops Q (o::rest) a w :=
 wpList_plain hgd λ K hK=>by
  obtain⟨v',w',hr,h2,h3,h4,h5⟩:=run_append_own_at (P:=P) w base t o.type e i z size bytes ht hi hz vZ YS IK bW v n xs dA ad m c news hl yv h1 h63 QS IC;unfold Oper.wp execOp;simp only[ho,resolve,invoke,builtin,Sem.run_bind,Sem.run_pure,Result.andThen_ok,List.map_toArray,List.map_cons,List.map_nil,hs,hx,hr];exact hK _ _ (h v' w' h2 h3 h5 h4)
structure FK(w0:World)(S:Nat->Prop)(B:Nat)(w:World)(v:Value)(ys:List J)(L:List Value):Prop where
 cS:Below w0.heap.size w0 w
 b0:w0.heap.size<=B
 bw:B<=w.heap.size
 own:w.ownsRow B 36 3 v ys.length L
 rd:cZ w0 S (ys.map J.aI) L
structure vK(v v':Value)(w w':World):Prop where
 g:w.grownBy w' v.ownBlock
 own:∀ k,v'.ownBlock=some k->v.ownBlock=some k\/w.heap.size<=k
def vK.trans{v v' v'':Value}{w w' Pa:World}(h:vK v v' w w')(k:vK v' v'' w' Pa):vK v v'' w Pa:=by
 refine⟨⟨k.g.os.trans h.g.os,k.g.tape.trans h.g.tape,k.g.output.trans h.g.output,a8M h.g.size k.g.size,λ q h1 h2=>?_⟩,λ q hq=>?_⟩
 .rw[k.g.block q (a7F h1 h.g.size) λ e=>?_,h.g.block q h1 h2];rcases h.own q e.symm with r|r
  .exact h2 r.symm
  .omega
 .rcases k.own q hq with r|r
  .exact h.own q r
  .exact .inr (a8M h.g.size r)
def vK.alloc{v:Value}(w:World)(o:Obj):vK v v w (w.alloc o):=⟨⟨rfl,rfl,rfl,by simp,λ k h _=>a8K w o k h⟩,λ k h => .inl h⟩
def FK.alloc{w0:World}{S:Nat->Prop}{B:Nat}{w:World}{v:Value}{ys:List J}{L:List Value}(h:FK w0 S B w v ys L)(o:Obj):FK w0 S B (w.alloc o) v ys L :=
 ⟨h.cS.alloc h.cS.size o,h.b0,by have:=h.bw;simp;omega,h.own.alloc o,h.rd⟩
def FK.drew{w0:World}{S:Nat->Prop}{B:Nat}{w:World}{v:Value}{ys:List J}{L:List Value}(h:FK w0 S B w v ys L):FK w0 S B w.drew v ys L :=
 ⟨h.cS.drew,h.b0,h.bw,h.own.drew,h.rd⟩
def vK.drew{v v':Value}{w w':World}(h:vK v v' w w'):vK v v' w w'.drew:=⟨⟨h.g.os,h.g.tape,h.g.output,h.g.size,h.g.block⟩,h.own⟩
abbrev WA(w0:World)(S:Nat->Prop)(B:Nat)(x:J)(cs:List Value)(v:Value)(ys:List J)(w:World):Prop :=
 Calls prog 89 #[v, .agg cs.toArray] w λ e w'=>∃ v' L',e = .returned v'/\FK w0 S B w' v' (wW x ys) L'/\vK v v' w w'
def Hv{w:World}{B e sz n:Nat}{v:Value}{L:List Value}(h:w.ownsRow B e sz v n L):∀ k,v.ownBlock=some k->B<=k/\k<w.heap.size:=λ k hk=>h.lt k hk
def vK.below{v v':Value}{w0 w w':World}{B e sz n:Nat}{L:List Value}(h:vK v v' w w')(hb:Below w0.heap.size w0 w)(h0:w0.heap.size<=B)(ho:w.ownsRow B e sz v n L):Below w0.heap.size w0 w' :=
 hb.trans ⟨h.g.os,h.g.tape,h.g.output,h.g.size,λ k hk=>h.g.block k (a7F hk hb.size) λ q=>by
  have:=(Hv ho k q.symm).1;omega⟩
set_option maxRecDepth 100000 in
def a5o(w0:World)(S:Nat->Prop)(B:Nat)(x:J)(h1:x.ai=1)(n:Int)(sl v:Value)(ys:List J)(L:List Value)(w:World)(hl:FK w0 S B w v ys L):WA w0 S B x [.int .i64 1, .int .i64 n,sl] v ys w:=by
 go_enter Tryz.func89,Tryz.ntmps89;go_wp2;go_ret;rw[YB x ys h1];exact⟨v,L,rfl,hl.alloc _,vK.alloc _ _⟩
set_option maxRecDepth 100000 in
def a5p(w0:World)(S:Nat->Prop)(B:Nat)(x:J)(h6:x.ai=6)(b2:B2 x)(n:Int)(kb ko cap:Nat)(c0 c1 c2 d0 d1 d2:Value)(v:Value)(ys:List J)(L:List Value)(w:World)(hl:FK w0 S B w v ys L)(hkb:kb<w0.heap.size)
  (o7:bn w0 kb ko [c0,c1,c2]) (rl:bn w0 kb (ko+3) [d0,d1,d2])
  (i0:∀ w',FK w0 S B w' v ys L->WA w0 S B (x.O.getD 0 zE) [c0,c1,c2] v ys w')
  (i1:∀ w' v' L',FK w0 S B w' v' (wW (x.O.getD 0 zE) ys) L'->WA w0 S B (x.O.getD 1 zE) [d0,d1,d2] v' (wW (x.O.getD 0 zE) ys) w') :
  WA w0 S B x [.int .i64 6, .int .i64 n, .slice (some ⟨kb,ko,none⟩) 2 cap] v ys w:=by
 have l0:=hl.alloc (.cells #[.int .i64 6, .int .i64 n, .slice (some ⟨kb,ko,none⟩) 2 cap] 36);have f0:vK v v w (w.alloc (.cells #[.int .i64 6, .int .i64 n, .slice (some ⟨kb,ko,none⟩) 2 cap] 36)):=vK.alloc _ _;have e0:=a8Q w (.cells #[.int .i64 6, .int .i64 n, .slice (some ⟨kb,ko,none⟩) 2 cap] 36);have vb:v.ownBlock≠some w.heap.size:=λ e=>by have:=(Hv hl.own _ e).2;omega
 go_enter Tryz.func89,Tryz.ntmps89;go_upto_region 1 with fail;generalize hb:w.heap.size=bx at *
 generalize w.alloc (.cells #[.int .i64 6, .int .i64 n, .slice (some ⟨kb,ko,none⟩) 2 cap] 36)=w1 at *
 have cl:=λ (W:World) (h:Below w0.heap.size w0 W)=>(⟨o7.aK (h.block kb hkb),rl.aK (h.block kb hkb)⟩:bn W kb ko [c0,c1,c2]/\bn W kb (ko+3) [d0,d1,d2]);have q0:w1.cell? ⟨kb,ko,none⟩=some c0:=(cl w1 l0.cS).1 0 _ rfl;have q1:w1.cell? ⟨kb,ko+1,none⟩=some c1:=(cl w1 l0.cS).1 1 _ rfl;have q2:w1.cell? ⟨kb,ko+2,none⟩=some c2:=(cl w1 l0.cS).1 2 _ rfl;have r0:w1.cell? ⟨kb,ko+3,none⟩=some d0:=(cl w1 l0.cS).2 0 _ rfl;have r1:w1.cell? ⟨kb,ko+4,none⟩=some d1:=(cl w1 l0.cS).2 1 _ rfl;have r2:w1.cell? ⟨kb,ko+5,none⟩=some d2:=(cl w1 l0.cS).2 2 _ rfl;obtain⟨⟨k0,k1,k2⟩,g0,g1,g2⟩:=pC e0;have ID:=bz e0;have vb':some bx≠v.ownBlock:=λ e=>vb e.symm;go_wp2_with fail;go_region_held3 (λ w'=>w'.cell? ⟨bx,2,none⟩=some (.slice (some ⟨kb,ko,none⟩) 2 cap)/\w'.cell? ⟨kb,ko,none⟩=some c0/\w'.cell? ⟨kb,ko+1,none⟩=some c1/\w'.cell? ⟨kb,ko+2,none⟩=some c2/\w'.cell? ⟨kb,ko+3,none⟩=some d0/\w'.cell? ⟨kb,ko+4,none⟩=some d1/\w'.cell? ⟨kb,ko+5,none⟩=some d2) (go_keep)
  (first
   | (
     go_at_call_of 89 c0
     refine (i0 _ l0.drew).mono ?_
     rintro e w2 ⟨v1,L1,he,l1,f1⟩
     subst he
     have e2:w2.heap[bx]?=some (.cells #[.int .i64 6, .int .i64 n, .slice (some ⟨kb,ko,none⟩) 2 cap] 36 (0,0)):=(f1.g.block bx ID vb').trans e0
     obtain⟨⟨k3,k4,k5⟩,g3,g4,g5⟩:=pC e2
     have p3:w2.cell? ⟨kb,ko,none⟩=some c0:=(cl w2 l1.cS).1 0 _ rfl
     have p4:w2.cell? ⟨kb,ko+1,none⟩=some c1:=(cl w2 l1.cS).1 1 _ rfl
     have p5:w2.cell? ⟨kb,ko+2,none⟩=some c2:=(cl w2 l1.cS).1 2 _ rfl
     have r3:w2.cell? ⟨kb,ko+3,none⟩=some d0:=(cl w2 l1.cS).2 0 _ rfl
     have r4:w2.cell? ⟨kb,ko+4,none⟩=some d1:=(cl w2 l1.cS).2 1 _ rfl
     have r5:w2.cell? ⟨kb,ko+5,none⟩=some d2:=(cl w2 l1.cS).2 2 _ rfl)
   | (
     go_at_call_of 89 d0
     refine (i1 _ _ _ l1).mono ?_
     rintro e w3 ⟨v2,L2,he,l2,f2⟩
     subst he
     have e3:w3.heap[bx]?=some (.cells #[.int .i64 6, .int .i64 n, .slice (some ⟨kb,ko,none⟩) 2 cap] 36 (0,0)):=(f2.g.block bx (bz e2) (λ e=>(f1.own bx e.symm).elim (λ q=>vb q) λ q=>by have q:w1.heap.size<=bx:=q;omega)).trans e2
     obtain⟨⟨k6,k7,k8⟩,g6,g7,g8⟩:=pC e3
     have p6:w3.cell? ⟨kb,ko,none⟩=some c0:=(cl w3 l2.cS).1 0 _ rfl
     have p7:w3.cell? ⟨kb,ko+1,none⟩=some c1:=(cl w3 l2.cS).1 1 _ rfl
     have p8:w3.cell? ⟨kb,ko+2,none⟩=some c2:=(cl w3 l2.cS).1 2 _ rfl
     have r6:w3.cell? ⟨kb,ko+3,none⟩=some d0:=(cl w3 l2.cS).2 0 _ rfl
     have r7:w3.cell? ⟨kb,ko+4,none⟩=some d1:=(cl w3 l2.cS).2 1 _ rfl
     have r8:w3.cell? ⟨kb,ko+5,none⟩=some d2:=(cl w3 l2.cS).2 2 _ rfl))
 all_goals
  go_wp2
  go_ret
  rw[YC x ys h6 b2]
  exact⟨v2,L2,rfl,l2,f0.trans ((vK.trans (show vK v v w1 w1.drew from ⟨⟨rfl,rfl,rfl,a7P _,λ _ _ _=>rfl⟩,λ k h => .inl h⟩) f1).trans f2)⟩
set_option maxRecDepth 100000 in
def a5q(w0:World)(S:Nat->Prop)(B:Nat)(x:J)(n1:¬ x.ai=1)(n6:¬ x.ai=6)(cs:List Value)(v:Value)(ys:List J)(L:List Value)(w:World)(hl:FK w0 S B w v ys L)(hr:Rd w0 S x.aI cs)(hn:ys.length<=8000) :
  WA w0 S B x cs v ys w:=by
 obtain⟨a,cap,rfl,_⟩:=nt hr;have kb1:(x.ai == 1)=false:=by simpa using n1
 have kb6:(x.ai == 6)=false:=by simpa using n6
 have l0:=(hl.alloc (.cells #[.int .i64 x.ai, .int .i64 x.aZ, .slice a x.O.length cap] 36)).alloc (.cells #[.int .i64 x.ai, .int .i64 x.aZ, .slice a x.O.length cap] 36);have f0:vK v v w ((w.alloc (.cells #[.int .i64 x.ai, .int .i64 x.aZ, .slice a x.O.length cap] 36)).alloc (.cells #[.int .i64 x.ai, .int .i64 x.aZ, .slice a x.O.length cap] 36)):=(vK.alloc _ _).trans (vK.alloc _ _);obtain⟨i0,OJ,OP,IJ,KH⟩:=info_parts Q9;go_enter Tryz.func89,Tryz.ntmps89;go_wp2_with (at_builtin;refine vI rfl _ _ 33 rfl B 36 i0 _ 3 40 Tryz.underlying33 OJ OP IJ KH rfl (by decide) v ys.length L rfl l0.own ⟨w.heap.size+1,0,none⟩ 1 1 [.int .i64 x.ai, .int .i64 x.aZ, .slice a x.O.length cap] (by first|rfl|simp) (by rfl) (World.news_of_block (cs := #[.int .i64 x.ai, .int .i64 x.aZ, .slice a x.O.length cap]) (t:=36) (fr:=(0,0)) (by simpa using heap_alloc_new (w.alloc _) (.cells #[.int .i64 x.ai, .int .i64 x.aZ, .slice a x.O.length cap] 36))) (by simp[Value.oneCell']) (by simp[maxLen];omega) (by omega) l0.bw ?_);intro v' w' dA df IA iu;go_wp2;go_ret;rw[YD x ys n1 n6];have fr:vK v v' _ w':=⟨df,λ k hk=>by
  rcases IA with e|e
  .exact .inl (by rw[<-e];exact hk)
  .rw[e] at hk;cases hk;exact .inr (by simp)⟩
 refine⟨v',_,rfl,⟨fr.below l0.cS l0.b0 l0.own,l0.b0,Nat.le_trans l0.bw df.size,by simpa using dA,?_⟩,f0.trans fr⟩;rw[List.map_append];exact cZ.append _ _ l0.rd ⟨_,[],by simp,hr,rfl⟩
def Gu(w0:World)(S:Nat->Prop)(hS:iR w0 S)(B:Nat):∀ (N:Nat) (x:J),bu x<N->aB x=true->∀ (cs:List Value) (v:Value) (ys:List J) (L:List Value) (w:World),FK w0 S B w v ys L->Rd w0 S x.aI cs->jF ys->eH ys+aj x<=8000->WA w0 S B x cs v ys w
 | 0,x,h,_=>by omega
 | N+1,x,hN,hg=>by
  intro cs v ys L w hl hr OI hn;by_cases h1:x.ai=1
  .obtain⟨a,cap,rfl,_⟩:=nt hr;rw[h1];exact a5o w0 S B x h1 _ _ v ys L w hl
  by_cases h6:x.ai=6
  .have b2:=cG x hg (.inl h6);obtain⟨a,cap,rfl,hk⟩:=nt hr;obtain⟨kb,ko,rfl,WV,eO⟩:∃ kb ko,a=some ⟨kb,ko,none⟩/\S kb/\cR w0 S (x.O.map J.aI) kb ko:=by
    rcases hk with hk|hk
    .have:=b2.len;rw[hk] at this;cases this
    .obtain⟨kb,ko,e1,e2,e3⟩:=hk;exact⟨kb,ko,e1,e2,e3⟩
   obtain⟨c0,c1,c2,r0,q0⟩:=Hz eO 0 (by have:=b2.len;omega);obtain⟨d0,d1,d2,r1,q1⟩:=Hz eO 1 (by have:=b2.len;omega);obtain⟨g1,t1⟩:=MD _ (x.O.getD 0 zE) (Nat.lt_succ_self _) b2.g0 ys OI;have nd:=b2.nd;rw[h6,b2.len];refine a5p w0 S B x h6 b2 _ kb ko cap _ _ _ _ _ _ v ys L w hl (hS.1 kb WV) (by simpa using q0) (by simpa using q1)
    (λ w' l'=>Gu w0 S hS B N _ (by have:=b2.l0;omega) b2.g0 _ v ys L w' l' r0 OI (by omega)) λ w' v' L' l' =>
    Gu w0 S hS B N _ (by have:=b2.l1;omega) b2.g1 _ v' _ L' w' l' r1 g1 (by omega)
  .exact a5q w0 S B x h1 h6 cs v ys L w hl hr (by have:eH ys=cg aj ys+ys.length:=rfl;omega)
def Rk{T:TypeId}(W:World):(Instr.makeMap T none).run prog W = .ok (.map (some W.heap.size)) (W.alloc (.map #[] 0)):=by simp[Instr.makeMap]
abbrev Nm:=J×Int×Int×Option Addr×Nat×Nat
instance a6H:Inhabited Nm:=⟨(J.mk (0:Int) (0:Int) [],0,0,none,0,0)⟩
def Pr(x:Nm):List Value:=[.int .i64 x.2.1, .int .i64 x.2.2.1, .slice x.2.2.2.1 x.2.2.2.2.1 x.2.2.2.2.2]
def mR(x:Nm):List Value := .string ⟨(bE x.1).toArray⟩::Pr x
def rF(x:Nm):(mR x).length=4:=rfl
def WM(x:Nm):∀ v∈mR x,v.oneCell'=true:=λ v hv=>by
 simp[mR,Pr] at hv;rcases hv with rfl|rfl|rfl|rfl<;>rfl
def PA:∀ (T:List Nm) (i q:Nat) (t:Nm),T[i]?=some t->q<4->(T.flatMap mR)[i * 4+q]?=(mR t)[q]?
 | [],i,q,t,h,_=>by simp at h
 | u::T,0,q,t,h,hq=>by
  simp only[b0p,a7v] at h;subst h;rw[a9j,a8H (by rw[rF];omega)];simp
 | u::T,i+1,q,t,h,hq=>by
  rw[List.flatMap_cons,List.getElem?_append_right (by rw[rF];omega),rF,show (i+1) * 4+q - 4=i * 4+q by omega];exact PA T i q t (by simpa using h) hq
structure LW(w:World)(mb:Nat)(L:List J)(i:Nat):Prop where
 ex:∃ (f:List UInt8->Option Bool) (n:Nat) (es:Array MapEntry) (clock:Nat),w.heap[mb]?=some (.map es clock)/\uk ⟨.str, .bool,f,n⟩ es/\n<=i/\∀ t,(f t).getD false=true↔∃ z∈L,bE z=t
structure NmX(w0:World)(S:Nat->Prop)(w:World)(v:Value)(T:List Nm):Prop where
 own:w.ownsRow w0.heap.size 138 4 v T.length (T.flatMap mR)
 rd:∀ t∈T,Rd w0 S t.1.aI (Pr t)
def a3H:(Tryz.prog.info? 138).map (λ i=>(i.zero,i.size,i.bytes))=some (some (.agg #[.string ⟨#[]⟩, .int .i64 0, .int .i64 0, .slice none 0 0]),4,56):=by kernel_rfl
def Xm{w:World}{B e sz n:Nat}{v:Value}{L:List Value}(h:w.ownsRow B e sz v n L):∃ ad cp,v = .slice ad n cp/\(n=0\/∃ g cur,ad=some ⟨g,0,none⟩/\B<=g/\w.heap[g]?=some (.cells cur e (0,0))/\cur.toList.take (n * sz)=L):=by
 rcases h.2 with ⟨e1,e2⟩|⟨g,cp,cur,e1,e2,e3,_,_,_,e4⟩
 .exact⟨none,0,by rw[e1,e2], .inl e2⟩
 .exact⟨_,cp,e1, .inr ⟨g,cur,rfl,e2,e3,e4⟩⟩
def a0M(w:World)(o1 o2 o3 o4 o5:Obj):(((((w.alloc o1).alloc o2).alloc o3).alloc o4).alloc o5).heap[w.heap.size]?=some o1/\(((((w.alloc o1).alloc o2).alloc o3).alloc o4).alloc o5).heap[w.heap.size+1]?=some o2 /\
  (((((w.alloc o1).alloc o2).alloc o3).alloc o4).alloc o5).heap[w.heap.size+1+1]?=some o3/\(((((w.alloc o1).alloc o2).alloc o3).alloc o4).alloc o5).heap[w.heap.size+1+1+1]?=some o4/\(((((w.alloc o1).alloc o2).alloc o3).alloc o4).alloc o5).heap[w.heap.size+1+1+1+1]?=some o5:=by
 have nw:=λ (w:World) (o:Obj)=>(b1M w o).1;refine⟨?_,?_,?_,?_,?_⟩
 .rw[a8K _ _ _ (by simp<;>omega),a8K _ _ _ (by simp<;>omega),a8K _ _ _ (by simp<;>omega),a8K _ _ _ (by simp)];exact nw w o1
 .rw[Lib.alloc_old _ _ _ (by simp<;>omega),Lib.alloc_old _ _ _ (by simp<;>omega),Lib.alloc_old _ _ _ (by simp)];exact (by simpa using nw (w.alloc o1) o2)
 .rw[Lib.alloc_old _ _ _ (by simp<;>omega),Lib.alloc_old _ _ _ (by simp)];exact (by simpa using nw ((w.alloc o1).alloc o2) o3)
 .rw[Lib.alloc_old _ _ _ (by simp)];exact (by simpa using nw (((w.alloc o1).alloc o2).alloc o3) o4)
 .exact (by simpa using nw ((((w.alloc o1).alloc o2).alloc o3).alloc o4) o5)
structure FH(b3 b4:Nat)(w w':World):Prop where
 os:w'.os=w.os
 tape:w'.tape=w.tape
 output:w'.output=w.output
 size:w.heap.size<=w'.heap.size
 block:∀ k,k<w.heap.size->k≠b3->k≠b4->w'.heap[k]?=w.heap[k]?
def FH.refl(b3 b4:Nat)(w:World):FH b3 b4 w w:=⟨rfl,rfl,rfl,a7P _,λ _ _ _ _=>rfl⟩
def FH.trans{b3 b4:Nat}{w w' Pa:World}(h:FH b3 b4 w w')(k:FH b3 b4 w' Pa):FH b3 b4 w Pa :=
 ⟨k.os.trans h.os,k.tape.trans h.tape,k.output.trans h.output,a8M h.size k.size,λ q h1 h2 h3=>(k.block q (a7F h1 h.size) h2 h3).trans (h.block q h1 h2 h3)⟩
def FH.cS{b3 b4 B:Nat}{w0 w w':World}(h:FH b3 b4 w w')(hb:Below B w0 w)(hB:B<=w0.heap.size)(h3:B<=b3)(h4:B<=b4):Below B w0 w' :=
 hb.trans ⟨h.os,h.tape,h.output,h.size,λ k hk=>h.block k (a7F hk (a8M hB hb.size)) (by omega) (by omega)⟩
def FH.of{b3 b4:Nat}{w w':World}(h:Below w.heap.size w w'):FH b3 b4 w w':=⟨h.os,h.tape,h.output,h.size,λ k hk _ _=>h.block k hk⟩
def LW.none{w:World}{mb:Nat}(h:w.heap[mb]?=some (.map #[] 0)):LW w mb [] 0 :=
 ⟨ie _ _,0,#[],0,h,uk.empty rfl rfl,a7P _,λ t=>by simp[ie]⟩
def LW.aK{w w':World}{mb i j:Nat}{L:List J}(h:LW w mb L i)(qi:i<=j)(hw:w'.heap[mb]?=w.heap[mb]?):LW w' mb L j:=by
 obtain⟨f,n,es,c,h1,h2,h3,h4⟩:=h.ex;exact⟨f,n,es,c,hw.trans h1,h2,by omega,h4⟩
def a0d(l:List UInt8)(h:l.length<=140737488355328):mH .str l (.string ⟨l.toArray⟩):=λ w S=>⟨⟨l.toArray⟩,rfl,by simp,by simpa [ByteArray.size] using h⟩
def P2(b:Bool):mH .bool b (.bool b):=λ w S=>rfl
def CC:prog.underlying 134=some (.map 9 4)/\prog.underlying 9=some .string:=⟨by kernel_rfl,by kernel_rfl⟩
def Vt(w:World):(zeroValue 4).run prog w = .ok (.bool false) w:=by
 have h:(Tryz.prog.info? 4).map (λ i=>i.zero)=some (some (.bool false)):=by kernel_rfl
 match hq:Tryz.prog.info? 4,h with
 | some i,h =>
  simp only[a9R,a7v] at h;simp[zeroValue,typeInfo,show prog.info? 4=some i from hq,h,Result.andThen]
def LW.ag{w:World}{mb i:Nat}{L:List J}(h:LW w mb L i)(x:J)(hl:(bE x).length<=1000000)(hg:aB x=true)(hL:jF L)(hi:i<1000000000) :
  (Instr.lookup 134 (.map (some mb)) (.string ⟨(bE x).toArray⟩) false).run prog w = .ok (.bool (L.any λ y=>dT y x)) w /\
  ((L.any λ y=>dT y x)=false->∃ w',(Instr.mapUpdate 134 (.map (some mb)) (.string ⟨(bE x).toArray⟩) (.bool true)).run prog w = .ok () w'/\LW w' mb (L++[x]) (i+1)/\w'.os=w.os/\w'.tape=w.tape/\w'.output=w.output/\w'.heap.size=w.heap.size/\∀ k,k≠mb->w'.heap[k]?=w.heap[k]?):=by
 obtain⟨f,n,es,c,h1,h2,h3,h4⟩:=h.ex;have hk:=a0d (bE x) (by omega);obtain⟨u,u1,u2⟩:=h2.ag (P:=prog) CC.1 (FG.str CC.2 w) h1 (Vt w) (P2 false) (k:=bE x) hk false;have hu:[u]=[.bool ((f (bE x)).getD false)]:=u1 w (λ _=>False);simp only[a7A,a7W] at hu;subst hu;have hb:(f (bE x)).getD false=(L.any λ y=>dT y x):=by
  have e:=a0Q L x hg hL;rw[<-h4] at e;cases h5:(f (bE x)).getD false<;>cases h6:L.any (λ y=>dT y x)<;>simp_all
 rw[hb] at u2;refine⟨u2,λ hf=>?_⟩;obtain⟨Sc,c',m1,m2⟩:=h2.store (P:=prog) CC.1 (FG.str CC.2 w) h1 (k:=bE x) hk (x:=true) (P2 true) (show n<1000000000 by omega);obtain⟨q1,q2⟩:=MapKept.heap_set (o' := .map Sc c') h1;refine⟨_,m1,⟨_,_,Sc,c',q1,m2,?_,λ t=>?_⟩,rfl,rfl,rfl,by simp,q2⟩
 .show fK _ n<=_;unfold fK;cases (f (bE x)).isSome<;>simp<;>omega
 .show (
     eL f (bE x) true t).getD false=true↔_
  by_cases ht:t=bE x
  .subst ht;rw[ou];simp
  .rw[iw _ _ _ ht,h4];constructor
   .rintro⟨z,hz,e⟩;exact⟨z,a9g _ hz,e⟩
   .rintro⟨z,hz,e⟩;rcases a7y.1 hz with q|q
    .exact⟨z,q,e⟩
    .rw[a7O] at q;exact absurd (by rw[<-e,q]) ht
open Go.Shelf Go.Lib Go.Sort
def VE:∀ a b:List UInt8,decide (Lib.compareBytes a b<0)=Op.bytesLess a b
 | [],[]=>rfl
 | [],_::_=>rfl
 | _::_,[]=>rfl
 | a::x,b::y=>by
  have ih:=VE x y;unfold Lib.compareBytes Op.bytesLess;by_cases h1:a<b
  .simp[h1]
  .by_cases h2:b<a
   .have h3:¬ a=b:=λ e=>by subst e;exact absurd h2 h1
    simp[h1,h2,h3]
   .have h3:a=b:=UInt8.le_antisymm (b1g.1 h2) (b1g.1 h1);subst h3;simp only[h1,b0l,ih];simp
abbrev T8(x y:Nm):Int:=Lib.compareBytes (bE x.1) (bE y.1)
def ltN(x y:Nm):ltOf T8 x y=OZ x.1 y.1:=VE _ _
def a6o:SWO (ltOf T8) where
 irrefl x:=by rw[ltN];exact D5 _
 trans x y z h1 h2:=by rw[ltN] at *;exact Cf _ _ _ h1 h2
 ntrans x y z h1 h2:=by rw[ltN] at *;exact Me _ _ _ h1 h2
set_option maxRecDepth 100000 in
def WI(x y:Nm)(W:World):Calls prog 92 #[.agg (mR x).toArray, .agg (mR y).toArray] W λ e w'=>e = .returned (.int .i64 (T8 x y))/\∃ q os',w'=grow (W.drewN q) os':=by
 have PM:=λ W'=>Tryz.strings_Compare ⟨(bE x.1).toArray⟩ ⟨(bE y.1).toArray⟩ W';simp only at PM;show Calls prog 92 #[.agg #[.string ⟨(bE x.1).toArray⟩, .int .i64 x.2.1, .int .i64 x.2.2.1, .slice x.2.2.2.1 x.2.2.2.2.1 x.2.2.2.2.2], .agg #[.string ⟨(bE y.1).toArray⟩, .int .i64 y.2.1, .int .i64 y.2.2.1, .slice y.2.2.2.1 y.2.2.2.2.1 y.2.2.2.2.2]] W _;unfold T8;generalize Lib.compareBytes (bE x.1) (bE y.1)=r at PM ⊢;go_enter Tryz.func92,Tryz.ntmps92;go_wp2_with (go_at_call 93;refine (PM _).mono ?_;rintro e w' ⟨rfl,rfl⟩);go_ret;exact⟨rfl,0,_,by rw[alloc_eq_grow,alloc_eq_grow,grow_grow];rfl⟩
def a0T:∀ args w,(callFunc 92 args).run prog w = .ok (.enter 92 args) w:=enters_of Tryz.func92 (by kernel_rfl) rfl
def a4s:∀ w,(isAgg (138)).run prog w = .ok true w:=Tryz.isAgg138
def a6i:∀ w,(Go.sizeOf (138)).run prog w = .ok 4 w:=Tryz.sizeOf138
def Uy(w:World)(os:Array Obj)(k:Nat)(h:k<w.heap.size):(grow w os).heap[k]?=w.heap[k]?:=by
 unfold grow;simp only;rw[Array.getElem?_append_left h]
def To(w:World)(dx off n:Nat)(d:Array Nm)(os:Array Obj):bJ (λ b=>b=dx) w (sortWorldK mR 4 w dx off n d os):=by
 refine⟨rfl,rfl,rfl,size_sortWorldK_c _ _ _ _ _ _ _ _,λ b hb dm=>?_⟩;unfold sortWorldK;rw[Uy _ _ _ (by rw[size_putRowK];exact hb)];unfold putRowK putRow mapBlock;simp only[Sort.ahead];rw[Array.getElem?_modify,if_neg λ e=>dm e.symm]
def V3{w0 w:World}{S:Nat->Prop}{gl cl:Nat}{T:List Nm}(h:NmX w0 S w (.slice (some ⟨gl,0,none⟩) T.length cl) T):HoldsK mR 4 w gl 0 T.toArray:=by
 intro j hj;rw[size_flatK] at hj;have hj:j<T.length * 4:=by simpa using hj
 obtain⟨cur,hc⟩:∃ cur,w.heap[gl]?=some (.cells cur 138 (0,0)):=by
  rcases h.own.2 with ⟨e,_⟩|⟨g',c',cur,e,_,h2,_⟩
  .cases e
  .cases e;exact⟨cur,h2⟩
 have hi:j / 4<T.length:=by omega
 refine⟨?_,QL hc⟩;have lf:=h.own.cells (g:=gl) rfl j (id ((flatK mR 4 T.toArray)[j]!)) (by
  have:=PA T (j / 4) (j % 4) _ (List.getElem?_eq_getElem hi) (by omega);rw[show j / 4 * 4+j % 4=j by omega] at this;rw[this,get_flatK _ _ _ _ (by simpa using hj)];have e:T.toArray[j / 4]! = T[j / 4]:=getElem!_pos T.toArray (j / 4) (by simpa using hi);rw[e];have hl:j % 4<(mR T[j / 4]).length:=by rw[rF];omega
  simp[hl])
 simpa [Addr.add_lit] using lf
def UD{w:World}{gl:Nat}{d:Array Nm}(h:HoldsK mR 4 w gl 0 d)(i:Nat)(t:Nm)(ht:d.toList[i]?=some t):bn w gl (i * 4) (mR t):=by
 intro q v hv;have hq:q<4:=by have:=(a7R.1 hv).1;rwa [rF] at this
 have hi:i<d.size:=by have:=(List.getElem?_eq_some_iff.1 ht).1;simpa using this
 have:=(h (i * 4+q) (by rw[size_flatK];omega)).1;rw[get_flatK _ _ _ _ (by omega),show (i * 4+q) / 4=i by omega,show (i * 4+q) % 4=q by omega] at this;have e:d[i]! = t:=by
  have h1:d[i]?=some t:=by simpa using ht
  rw[getElem!_pos d i hi];exact a8I ((a8u hi).symm.trans h1)
 rw[e] at this;have h2:(mR t)[q]! = v:=by simp[hv]
 rw[h2] at this;simpa using this
def Xy{T:List Nm}{d':Array Nm}{M:List J}(hM:T.map (·.1)=M)(hg:jF M)(hp:PermIn 0 T.toArray.size T.toArray d')(hs:SortedIn (ltOf T8) 0 T.toArray.size d'):d'.toList.map (·.1)=yM M/\d'.toList.Perm T:=by
 obtain⟨h1,_,h3⟩:=hp;have h3:d'.toList.Perm T:=by
  have e1:T.toArray.extract 0 T.toArray.size=T.toArray:=by simp
  have e2:d'.extract 0 T.toArray.size=d':=by rw[<-h1];simp
  rw[e1,e2] at h3;simpa using h3
 refine⟨a0q M _ hg (by rw[<-hM];exact h3.map _) ?_,h3⟩;unfold DR;rw[List.pairwise_map,List.pairwise_iff_getElem];intro i j hi hj qi;have:=hs i j (Nat.zero_le _) qi (by rw[<-h1];simpa using hj);rw[ltN] at this;have e1:d'[i]! = d'.toList[i]:=getElem!_pos d' i (by simpa using hi);have e2:d'[j]! = d'.toList[j]:=getElem!_pos d' j (by simpa using hj);rw[e1,e2] at this;exact this
def SP{w0 w:World}{S Z:Nat->Prop}(hS:iR w0 S)(hb:Below w0.heap.size w0 w)(hZ:∀ b,Z b->b<w.heap.size) :
  Calls prog 41 #[.int .i64 1, .int .i64 0] w λ e w'=>∃ (k' n':Int) (a':Option Addr) (l' c':Nat),e = .returned (.agg #[.int .i64 k', .int .i64 n', .slice a' l' c'])/\bJ (λ _=>False) w w'/\Rd w' (Sx w0 S Z w') (J.mk 1 0 []).aI [.int .i64 k', .int .i64 n', .slice a' l' c']:=by
 refine (ga.2 (1:Int) (0:Int) trivial w _ [_,_] (Jt Z hS hb) ⟨⟨rfl,by decide,by decide⟩,⟨rfl,by decide,by decide⟩,af⟩).mono ?_;rintro e w' ⟨v,S',res,rfl,rfl,fg,tY,xd,hr⟩;obtain⟨cs,rfl,ub⟩:=(show ∃ cs,v = .agg cs.toArray/\Rd w' S' (J.mk 1 0 []).aI cs from hr);obtain⟨_,_,_,_,_,rfl⟩:=Jx ub;exact⟨_,_,_,_,_,rfl,fg,HO hS hb hZ fg tY xd ub⟩
def TF{w0 w:World}{S Z:Nat->Prop}(hS:iR w0 S)(hb:Below w0.heap.size w0 w)(hZ:∀ b,Z b->b<w.heap.size)(x y:J)(a0 a1 a2 b0 b1 b2:Value)(rx:Rd w (Sx w0 S Z w) x.aI [a0,a1,a2])(ry:Rd w (Sx w0 S Z w) y.aI [b0,b1,b2])
  (bk:Nat) (Ut:w.heap[bk]?=some (.cells #[a0,a1,a2,b0,b1,b2] 36 (0,0))) (h0:w0.heap.size<=bk) (hz:¬ Z bk) :
  Calls prog 24 #[.int .i64 6, .slice (some ⟨bk,0,none⟩) 2 2] w λ e w'=>∃ (k' n':Int) (a':Option Addr) (l' c':Nat),e = .returned (.agg #[.int .i64 k', .int .i64 n', .slice a' l' c'])/\bJ (λ _=>False) w w'/\Rd w' (Sx w0 S Z w') (J.mk 6 0 [x,y]).aI [.int .i64 k', .int .i64 n', .slice a' l' c']:=by
 have hc:∀ (o:Nat) (v:Value),(#[a0,a1,a2,b0,b1,b2]:Array Value)[o]?=some v->w.cell? ⟨bk,o,none⟩=some v:=λ o v h=>by simp[World.cell?,Ut,h]
 have r1:bn w bk 0 [a0,a1,a2]:=λ j v hj=>by
  have Y2:j<3:=(a7R.1 hj).1;match j,Y2 with
  | 0,_=>exact hc 0 v hj
  | 1,_=>exact hc 1 v hj
  | 2,_=>exact hc 2 v hj
 have r2:bn w bk 3 [b0,b1,b2]:=λ j v hj=>by
  have Y2:j<3:=(a7R.1 hj).1;match j,Y2 with
  | 0,_=>exact hc 3 v hj
  | 1,_=>exact hc 4 v hj
  | 2,_=>exact hc 5 v hj
 have sx:x.aI.size=3:=by cases x;rfl
 have sy:y.aI.size=3:=by cases y;rfl
 have q1:[a0,a1,a2].length=x.aI.size:=by rw[sx];rfl
 have q2:[b0,b1,b2].length=y.aI.size:=by rw[sy];rfl
 have q3:bn w bk (0+x.aI.size) [b0,b1,b2]:=by rw[sx];exact r2
 refine (eU.2 (6:Int) [x,y] trivial w _ [_,_] (Jt Z hS hb) ⟨⟨rfl,by decide,by decide⟩,⟨some ⟨bk,0,none⟩,2,rfl,a7P 2,(show (2:Nat)<=maxLen by decide),(show (2:Nat)<=140737488355328 by decide), .inr ⟨bk,0,rfl, .inr ⟨h0,bz Ut,hz⟩,⟨[a0,a1,a2],q1,rx,r1⟩,⟨[b0,b1,b2],q2,ry,q3⟩,af⟩⟩,af⟩).mono ?_;rintro e w' ⟨v,S',res,rfl,rfl,fg,tY,xd,hr⟩;obtain⟨cs,rfl,ub⟩:=(show ∃ cs,v = .agg cs.toArray/\Rd w' S' (J.mk 6 0 [x,y]).aI cs from hr);obtain⟨_,_,_,_,_,rfl⟩:=Jx ub;exact⟨_,_,_,_,_,rfl,fg,HO hS hb hZ fg tY xd ub⟩
def DX{a:Act}{w:World}{b:Nat}{cs:List Value}{t:TypeId}(h4:a.tmps.getD 4 undef = .pointer (some ⟨b,0,none⟩))(hb:w.heap[b]?=some (.cells cs.toArray t (0,0)))(hl:cs.length=3)(hd:a.defers=[])
  {R:Ending->World->Prop} (hR:R (.returned (.agg cs.toArray)) w):bodyPost prog Tryz.f66 R .ret a w:=by
 refine b1f ?_ hd hR;have cC:(Instr.loadAt 36 (.pointer (some ⟨b,0,none⟩))).run prog w = .ok (.agg cs.toArray) w:=gD (Ch (l:=[]) (wr:=[]) (cl:=[]) (ro:=[]) trivial) (T:=36) (τ := .st .expr) rfl (λ j v hj=>by simp[World.cell?,hb,hj]) hl;simp only[Instr.loadAt,Instr.sureAddr,a7U,a7S,a7N] at cC;rw[pf,a9t];simp only[a7U,b1p,Tryz.f66,a9K,List.mapM_nil,kJ,h4,asAddr,a7S,a7N,cC];rfl
set_option maxRecDepth 100000 in
def O8(w:World)(S:Nat->Prop)(hS:iR w S)(x y:J)(hx:aB x=true)(hy:aB y=true)(hn:aj x+aj y<=7000)(cx cy:List Value)(rx:Rd w S x.aI cx)(ry:Rd w S y.aI cy) :
  Calls prog 66 #[.agg cx.toArray, .agg cy.toArray] w λ e w'=>∃ cs,e = .returned (.agg cs.toArray)/\Rd w' (Sx w S (λ _=>False) w') (Ln x y).aI cs/\bJ (λ _=>False) w w':=by
 obtain⟨k1,n1,a1,l1,p1,rfl⟩:=Jx rx;obtain⟨k2,n2,a2,l2,p2,rfl⟩:=Jx ry;have hmk:=Rk (T:=134);have X1:∃ W,W=((((w.alloc (.cells #[.int .i64 k1, .int .i64 n1, .slice a1 l1 p1] 36)).alloc (.cells #[.int .i64 k2, .int .i64 n2, .slice a2 l2 p2] 36)).alloc (.cells #[.int .i64 0, .int .i64 0, .slice none 0 0] 36)).alloc (.cells #[] 138)).alloc (.map #[] 0):=⟨_,rfl⟩;obtain⟨W,hW⟩:=X1;have B0:Below w.heap.size w W:=by
  rw[hW];exact (((((a9y _ w).alloc (a7P _) _).alloc (by simp) _).alloc (by simp;omega) _).alloc (by simp;omega) _).alloc (by simp;omega) _
 have Wz:W.heap.size=w.heap.size+5:=by rw[hW];simp
 obtain⟨e1,e2,e3,e4,e5⟩:=a0M w (.cells #[.int .i64 k1, .int .i64 n1, .slice a1 l1 p1] 36) (.cells #[.int .i64 k2, .int .i64 n2, .slice a2 l2 p2] 36) (.cells #[.int .i64 0, .int .i64 0, .slice none 0 0] 36) (.cells #[] 138) (.map #[] 0);rw[<-hW] at e1 e2 e3 e4 e5;go_enter Tryz.func66,Tryz.ntmps66;go_upto_region 3 with fail;rw[<-hW];clear hW hmk;have b1:w.heap.size<W.heap.size:=bz e1;have b2:w.heap.size+1<W.heap.size:=bz e2;obtain⟨⟨q0,q1,q2⟩,_,_,_⟩:=pC e1;obtain⟨⟨r0,r1,r2⟩,_,_,_⟩:=pC e2;have l0:FK w S W.heap.size W.drew (.slice none 0 0) [] []:=⟨B0.drew,B0.size,a7P _,⟨rfl, .inl ⟨rfl,rfl⟩⟩,rfl⟩;have t0:eH []=0:=rfl;have gn:jF []:=λ _ h=>by cases h
 obtain⟨g1,t1⟩:=MD _ x (a7M _) hx [] gn;obtain⟨g2,t2⟩:=MD _ y (a7M _) hy _ g1;go_wp2_with fail;go_region_held3 (λ w'=>w'.cell? ⟨w.heap.size,0,none⟩=some (.int .i64 k1)/\w'.cell? ⟨w.heap.size,1,none⟩=some (.int .i64 n1)/\w'.cell? ⟨w.heap.size,2,none⟩=some (.slice a1 l1 p1)/\w'.cell? ⟨w.heap.size+1,0,none⟩=some (.int .i64 k2)/\w'.cell? ⟨w.heap.size+1,1,none⟩=some (.int .i64 n2)/\w'.cell? ⟨w.heap.size+1,2,none⟩=some (.slice a2 l2 p2)) (go_keep)
  (first
   | (
     go_at_call_of 89 k1
     refine (Gu w S hS W.heap.size _ x (a7M _) hx _ (.slice none 0 0) [] [] _ l0 rx gn (by omega)).mono ?_
     rintro e w2 ⟨v1,L1,he,l1,f1⟩
     subst he
     have m1:∀ k,k<W.heap.size->w2.heap[k]?=W.heap[k]?:=λ k hk=>f1.g.block k hk (by simp[Value.ownBlock])
     obtain⟨⟨q3,q4,q5⟩,_,_,_⟩:=pC ((m1 _ b1).trans e1)
     obtain⟨⟨r3,r4,r5⟩,_,_,_⟩:=pC ((m1 _ b2).trans e2))
   | (
     go_at_call_of 89 k2
     refine (Gu w S hS W.heap.size _ y (a7M _) hy _ v1 _ L1 _ l1 ry g1 (by omega)).mono ?_
     rintro e w3 ⟨v2,L2,he,l2,f2⟩
     subst he
     have m2:∀ k,k<W.heap.size->w3.heap[k]?=W.heap[k]?:=λ k hk=>(f2.g.block k (a7F hk f1.g.size) (λ e=>(f1.own k e.symm).elim (λ q=>by simp[Value.ownBlock] at q) λ q=>by have q:W.heap.size<=k:=q;omega)).trans (m1 k hk)
     obtain⟨⟨q6,q7,q8⟩,_,_,_⟩:=pC ((m2 _ b1).trans e1)
     obtain⟨⟨r6,r7,r8⟩,_,_,_⟩:=pC ((m2 _ b2).trans e2)
     obtain⟨ad,cp,rfl,hFL⟩:=Xm l2.own))
 obtain⟨iN,hN,hN0,hN1,hN2⟩:=b1A a3H;have hdk:=a0R x y hx hy;have hsu:=a0v x y hx hy;have W8:Ln x y=mh (yM (dJ y (dJ x []))):=rfl;have a2O:=l2.rd;have Yc:=l2.cS;have s3:=l2.bw;have hFg:=g2;have hFt:eH (wW y (wW x []))<=7002:=by omega
 have f3:=(m2 _ (bz e3)).trans e3;have f4:=(m2 _ (bz e4)).trans e4;have f5:=(m2 _ (bz e5)).trans e5;clear t1 t2 g1 g2 t0 gn q0 q1 q2 r0 r1 r2 q3 q4 q5 r3 r4 r5 q6 q7 q8 r6 r7 r8 l0 e1 e2 e3 e4 e5 f1 f2 m1 l1 l2 b1 b2;generalize wW y (wW x [])=FL at *
 have hFn:FL.length<=7002:=by have:eH FL=cg aj FL+FL.length:=rfl;omega
 rename_i a3t;clear a3t;go_wp2_with fail;go_loopw [5,20] (λ vl i wr=>∃ (k:Nat) (T:List Nm) (g c:Nat),i = .int .i64 k/\k<=FL.length/\T.map (·.1)=tU FL k/\vl = .slice (some ⟨g,0,none⟩) T.length c/\NmX w S wr vl T/\LW wr (w.heap.size+1+1+1+1) (tU FL k) k /\
   FH (w.heap.size+1+1+1) (w.heap.size+1+1+1+1) w3 wr/\(g=w.heap.size+1+1+1\/w3.heap.size<=g)) (λ vl i wr=>FL.length - kN i)
 .refine⟨0,[],w.heap.size+1+1+1,0,rfl,a8r _,rfl,rfl,⟨⟨rfl, .inr ⟨w.heap.size+1+1+1,0,#[],rfl,by omega,f4,a7P _,by simp[maxLen],rfl,rfl⟩⟩,λ t ht=>by cases ht⟩,LW.none f5,FH.refl _ _ _, .inl rfl⟩
 obtain⟨k,T,gl,cl,rfl,hk,hT,rfl,OF,hSe,Sj,OI⟩:=hrel;by_cases bp:k<FL.length
 .obtain⟨z,hz⟩:∃ z,FL[k]?=some z:=⟨_,a7L bp⟩;have hgz:aB z=true:=hFg z (a8i hz);have hnz:aj z<=9000:=by
   have:aj z<=cg aj FL:=by
    obtain⟨a,b,rfl⟩:=b0K (a8i hz);rw[xN];simp[cg];omega
   have:eH FL=cg aj FL+FL.length:=rfl;omega
  have Sw:=RS z hgz hnz;have hdz:=Mq FL k z hz;have hdg:=AW FL hFg k;have hdl:=QA FL k;obtain⟨g,cur,rfl,hgW,mZ,hgt⟩:=hFL.resolve_left (by omega);have a5L:wr.heap[g]?=some (.cells cur 36 (0,0)):=(Sj.block g (bz mZ) (by omega) (by omega)).trans mZ;obtain⟨c0,c1,c2,hcz,hrz⟩:=BW a5L hgt a2O k z hz;obtain⟨zk,zn,za,zl,zc,hce⟩:=Jx hrz;simp only[a7A,a7W] at hce;obtain⟨rfl,rfl,rfl⟩:=hce;have z0:wr.cell? ⟨g,k * 3,none⟩=some (.int .i64 zk):=hcz 0 _ rfl;have z1:wr.cell? ⟨g,k * 3+1,none⟩=some (.int .i64 zn):=hcz 1 _ rfl;have z2:wr.cell? ⟨g,k * 3+2,none⟩=some (.slice za zl zc):=hcz 2 _ rfl;have bk0:(0:Int)<=(k:Int):=by omega
  have bk1:(k:Int)<(FL.length:Int):=by omega
  have Md:Below w.heap.size w wr:=Sj.cS Yc (a7P _) (by omega) (by omega);have srw:=Sj.size;go_upto_region 6 with fail;have n4:=a8Q wr (.cells #[.int .i64 zk, .int .i64 zn, .slice za zl zc] 36);have b4:Below wr.heap.size wr (wr.alloc (.cells #[.int .i64 zk, .int .i64 zn, .slice za zl zc] 36)):=(a9y _ wr).alloc (a7P _) _;have sz4:(wr.alloc (.cells #[.int .i64 zk, .int .i64 zn, .slice za zl zc] 36)).heap.size=wr.heap.size+1:=by simp
  generalize wr.alloc (.cells #[.int .i64 zk, .int .i64 zn, .slice za zl zc] 36)=w4 at *
  have Yb:Below w.heap.size w w4:=Md.trans (b4.mono Md.size);obtain⟨⟨o0,o1,o2⟩,_,_,_⟩:=pC n4;go_wp2_with (go_at_call 90;refine (HT z w4 S (λ b hb=>a7F (hS.1 b hb) Yb.size) hgz Sw _ (Wh hS Yb hrz)).mono ?_);rintro e w5 ⟨he,b5⟩;subst he;have b45:Below wr.heap.size wr w5:=b4.trans (b5.mono (by omega));have a6C:Below w.heap.size w w5:=Md.trans (b45.mono Md.size);have n5:=(b5.block _ (bz n4)).trans n4;obtain⟨⟨m0,m1,m2'⟩,_,_,_⟩:=pC n5;have J1:FH (w.heap.size+1+1+1) (w.heap.size+1+1+1+1) w3 w5:=Sj.trans (FH.of b45);have a7t:w.heap.size+1+1+1+1<w3.heap.size:=bz f5;have a2k:LW w5 (w.heap.size+1+1+1+1) (tU FL k) k:=hSe.aK (a7P _) (b45.block _ (by omega));have yx:=OF.own.kept (xc b45) (.inr (by simp[Value.ownBlock]));have hs5:=b5.size;obtain⟨Y6,xh⟩:=a2k.ag z Sw hgz hdg (by omega);rcases a8L ((tU FL k).any λ y=>dT y z) with ha|ha
  .rw[ha] at Y6;go_wp2;refine⟨⟨k+1,T,gl,cl,by first|rfl|simp,bp,?_,rfl,⟨yx,OF.rd⟩,?_,J1,OI⟩,?_⟩
   .rw[hT,hdz,Gg,a7E ha]
   .rw[hdz,Gg,a7E ha];exact a2k.aK (Nat.le_succ _) rfl
   .simp only[kN];omega
  .rw[ha] at Y6;obtain⟨w6,a7s,a5u,u1,u2,u3,u4,u5⟩:=xh ha;have n6:=(u5 wr.heap.size (by omega)).trans n5;obtain⟨⟨m3,m4,m5⟩,_,_,_⟩:=pC n6;have hg6:w5.grownBy w6 (some (w.heap.size+1+1+1+1)):=⟨u1,u2,u3,by omega,λ q h1 h2=>u5 q λ e=>h2 (by rw[e])⟩;have UE:=yx.kept hg6 (.inr (by simp[Value.ownBlock];omega));have Q1:=UE.alloc (.cells #[.string ⟨(bE z).toArray⟩, .int .i64 zk, .int .i64 zn, .slice za zl zc] 138);have hTl:(tU FL k).length=T.length:=by rw[<-hT,a8n]
   have hu4:w5.heap.size=w6.heap.size:=u4.symm;clear u4;go_wp2_with (at_builtin;refine vI rfl _ _ 133 rfl w.heap.size 138 iN _ 4 56 Tryz.underlying133 hN hN0 hN1 hN2 rfl (by decide) _ T.length _ rfl Q1 ⟨w6.heap.size,0,none⟩ 1 1 [.string ⟨(bE z).toArray⟩, .int .i64 zk, .int .i64 zn, .slice za zl zc] (by first|rfl|simp) (by rfl) (b0E (cs := #[.string ⟨(bE z).toArray⟩, .int .i64 zk, .int .i64 zn, .slice za zl zc]) (t:=138) (fr:=(0,0)) (a8Q w6 _)) (by simp[Value.oneCell']) (by simp[maxLen];omega) (by omega) (by simp;omega) ?_);intro v' w7 dA df IA iu;go_wp2;rcases dA.2 with ⟨e,_⟩|⟨g',c',a7g,rfl,o1',o2',o3',o4',o5',o6'⟩
   .exact (iu e).elim
   have a7r:w6.heap.size+1<=w7.heap.size:=by simpa using df.size
   have a1U:∀ q,q<w6.heap.size->q≠gl->w7.heap[q]?=w6.heap[q]?:=λ q h1 h2=>(df.block q (by simp;omega) (λ e=>h2 (a8I e))).trans (a8K _ _ _ h1);have a7k:gl<w5.heap.size:=(Hv yx gl rfl).2;refine⟨⟨k+1,T++[(z,zk,zn,za,zl,zc)],g',c',by first|rfl|simp,bp,?_,by simp,⟨?_,λ t ht=>?_⟩,?_,?_,?_⟩,?_⟩
   .rw[hdz,Gg,a7z (by rw[ha];decide),a8R,hT];rfl
   .rw[a7K,List.flatMap_append];exact dA
   .rcases a7y.1 ht with q|q
    .exact OF.rd t q
    .rw[a7O] at q;rw[q];exact hrz
   .rw[hdz,Gg,a7z (by rw[ha];decide)];exact a5u.aK (a7P _) (a1U _ (by omega) (by omega))
   .exact⟨df.os.trans (u1.trans J1.os),df.tape.trans (u2.trans J1.tape),df.output.trans (u3.trans J1.output),by have:=J1.size;omega,λ q h1 h2 h3=>(a1U q (by have:=J1.size;omega) (by rintro rfl;exact OI.elim (λ e=>h2 e) λ e=>by omega)).trans ((u5 q h3).trans (J1.block q h1 h2 h3))⟩
   .rcases IA with e|e
    .have e:g'=gl:=by simpa [Value.ownBlock] using e
     rw[e];exact OI
    .have e:g'=w6.heap.size+1:=by simpa [Value.ownBlock] using e
     exact .inr (by have:=J1.size;omega)
   .simp only[kN];omega
 .have UB:k=FL.length:=by omega
  have hM:=hdk k (by omega);rw[hM] at hT;have hMg:=hM ▸ AW FL hFg k;clear hdk hSe hFL a2O hFg hFt;have hTl:T.length<=7002:=by
   have h1:T.length=(dJ y (dJ x [])).length:=by rw[<-hT,a8n]
   have h2:=QA FL k;rw[hM] at h2;omega
  have MO:T.toArray.size<4611686018427387904:=by rw[b0P];omega
  have PM:Calls prog 91 #[.slice (some ⟨gl,0,none⟩) T.length cl, .func (.func 92) #[] #[]] wr λ e w'=>e = .returned (.tuple #[])/\∃ d' n os,PermIn 0 T.toArray.size T.toArray d'/\SortedIn (ltOf T8) 0 T.toArray.size d'/\w'=sortWorldK mR 4 wr gl 0 n d' os :=
   AnyQ.slices_SortFunc Tryz.a1C 4 a4s a6i mR rF WM T8 a6o 92 #[] gl 0 cl T.toArray wr a0T (λ _ _ _ _ x y=>WI x y _) (V3 OF) (Hv OF.own gl rfl).2 MO
  go_wp2_with (go_at_call 91;refine PM.mono ?_);rintro e w4 ⟨he,d',nn,os,hp,W6,SE⟩;subst he;obtain⟨hsr,hpm⟩:=Xy hT hMg hp W6;have YY:=(Hv OF.own gl rfl);have Su:bJ (λ b=>b=gl) wr w4:=by rw[SE];exact To _ _ _ _ _ _
  have hH4:HoldsK mR 4 w4 gl 0 d':=by rw[SE];exact holdsK_sortWorldK_c _ _ _ _ _ _ _ _ _ (V3 OF) YY.2 hp.1
  have xe:=λ i t h=>UD hH4 i t h;have a2A:∀ t∈d'.toList,Rd w S t.1.aI (Pr t):=λ t ht=>OF.rd t (hpm.mem_iff.1 ht);have hDl:d'.toList.length=T.length:=hpm.length_eq;have Md:Below w.heap.size w wr:=Sj.cS Yc (a7P _) (by omega) (by omega);have b4:Below w.heap.size w w4:=Md.trans ⟨Su.os,Su.tape,Su.output,Su.size,λ q hq=>Su.block q (a7F hq Md.size) (by omega)⟩;have hw3:=bz f3;have hLs:=Sj.size;have z4:w4.heap[w.heap.size+1+1]?=some (.cells #[.int .i64 0, .int .i64 0, .slice none 0 0] 36 (0,0)):=(Su.block _ (by omega) (by omega)).trans ((Sj.block _ hw3 (by omega) (by omega)).trans f3);have a5K:gl<w4.heap.size:=a7F YY.2 Su.size;have a7l:gl≠w.heap.size+1+1:=by omega
  have a7i:T.length<=cl:=by
   rcases OF.own.2 with ⟨e,_⟩|⟨_,_,_,e,_,_,h,_⟩
   .cases e
   .cases e;exact h
  clear PM SE hH4 hp W6 OF hpm Su hLs YY;generalize d'.toList=D at *
  have hZS:yM (dJ y (dJ x []))=D.map (·.1):=hsr.symm;rw[hZS] at hsu W8;generalize dJ y (dJ x [])=M at *
  clear hM hsr hZS hT hMg Sj f3 f4 f5 m2;have WW:∀ b,b=w.heap.size+1+1->w.heap.size<=b:=λ b h=>by omega
  have ZC:=bz z4;go_upto_region 12 with fail;generalize hnT:T.length=n at *
  by_cases hn0:n=0
  .subst hn0;have e0:D=[]:=List.eq_nil_of_length_eq_zero hDl;go_wp2_with (go_at_call 41;refine (SP (Z:=λ b=>b=w.heap.size+1+1) hS b4 (λ b hb=>by have hb:b=w.heap.size+1+1:=hb;omega)).mono ?_);rintro e w5 ⟨ek,en,ea,em,ec,he,MW,r5⟩;subst he;have z5:=(MW.block _ ZC id).trans z4;have b5:=b4.trans (oX MW b4.size);obtain⟨⟨k0,k1,k2⟩,g0,g1,g2⟩:=pC z5;go_wp2;obtain⟨z6,o6⟩:=Oa (.int .i64 ek) (.int .i64 en) (.slice ea em ec) z5;refine DX (cs:=[.int .i64 ek, .int .i64 en, .slice ea em ec]) rfl z6 rfl rfl ?_;refine⟨[.int .i64 ek, .int .i64 en, .slice ea em ec],rfl,?_,b5.os,b5.tape,b5.output,by simpa using b5.size,λ b hb _=>(o6 b (by omega)).trans (b5.block b hb)⟩;rw[W8,e0];exact pq hS b5 (by simp) WW (λ b _ h=>o6 b h) (λ b _ h=>h.elim) r5
  .obtain⟨t0,Zj⟩:∃ t,D[0]?=some t:=⟨_,List.getElem?_eq_getElem (by omega)⟩;have c0:=xe 0 t0 Zj;have a0:w4.cell? ⟨gl,0,none⟩=some (.string ⟨(bE t0.1).toArray⟩):=by simpa using c0 0 _ rfl
   have a1':w4.cell? ⟨gl,1,none⟩=some (.int .i64 t0.2.1):=by simpa using c0 1 _ rfl
   have a2':w4.cell? ⟨gl,2,none⟩=some (.int .i64 t0.2.2.1):=by simpa using c0 2 _ rfl
   have a3':w4.cell? ⟨gl,3,none⟩=some (.slice t0.2.2.2.1 t0.2.2.2.2.1 t0.2.2.2.2.2):=by simpa using c0 3 _ rfl
   have bn0:(0:Int)<(n:Int):=by omega
   have bn1:(1:Int)<=(n:Int):=by omega
   have bn2:(n:Int)<=(cl:Int):=by omega
   go_upto_region 15 with fail;have r0':Rd w S t0.1.aI (Pr t0):=a2A t0 (a8i Zj);have n4:=a8Q w4 (.cells #[.int .i64 t0.2.1, .int .i64 t0.2.2.1, .slice t0.2.2.2.1 t0.2.2.2.2.1 t0.2.2.2.2.2] 36);have m6:∀ b,b<w4.heap.size->(w4.alloc (.cells #[.int .i64 t0.2.1, .int .i64 t0.2.2.1, .slice t0.2.2.2.1 t0.2.2.2.2.1 t0.2.2.2.2.2] 36)).heap[b]?=w4.heap[b]?:=λ b hb=>a8K _ _ _ hb;have b6:Below w.heap.size w (w4.alloc (.cells #[.int .i64 t0.2.1, .int .i64 t0.2.2.1, .slice t0.2.2.2.1 t0.2.2.2.2.1 t0.2.2.2.2.2] 36)):=b4.alloc (by omega) _;have s6:(w4.alloc (.cells #[.int .i64 t0.2.1, .int .i64 t0.2.2.1, .slice t0.2.2.2.1 t0.2.2.2.2.1 t0.2.2.2.2.2] 36)).heap.size=w4.heap.size+1:=by simp
   generalize w4.alloc (.cells #[.int .i64 t0.2.1, .int .i64 t0.2.2.1, .slice t0.2.2.2.1 t0.2.2.2.2.1 t0.2.2.2.2.2] 36)=w6 at *
   have z6:=(m6 _ ZC).trans z4;have a5F:∀ i t,D[i]?=some t->bn w6 gl (i * 4) (mR t):=λ i t h=>(xe i t h).aK (m6 _ a5K);have r6:Rd w6 (Sx w S (λ b=>b=w.heap.size+1+1\/b=w4.heap.size) w6) (mh ((D.map (·.1)).take 1)).aI [.int .i64 t0.2.1, .int .i64 t0.2.2.1, .slice t0.2.2.2.1 t0.2.2.2.2.1 t0.2.2.2.2.2]:=by
    have:mh ((D.map (·.1)).take 1)=t0.1:=by
     match D,Zj with
     | t::_,Zj=>cases Zj;rfl
    rw[this];exact RN _ hS b6 r0'
   clear xe m6 a0 a1' a2' a3' c0 z4;generalize hT0:w4.heap.size=T0 at *
   go_cut [50,51,52] (λ s50 s51 s52 wx=>wx=w6/\s51 = .int .i64 ((n - 1:Nat):Int)/\s52 = .int .i64 0/\∃ o c,s50 = .slice (some ⟨gl,o,none⟩) (n - 1) c/\(n - 1=0\/o=4));case first =>
    have e1:(n:Int) - 1=((n - 1:Nat):Int):=by omega
    by_cases MR:cl=1
    .subst MR;have UC:n=1:=by omega
     subst UC;go_wp2;go_meet;exact⟨rfl,rfl,rfl,_,_,rfl, .inl (by simp)⟩
    .go_wp2;go_meet;exact⟨rfl,rfl,rfl,_,_,rfl, .inr rfl⟩
   case rest =>
    obtain⟨hwc,rfl,rfl,o,c,rfl,ho⟩:=hcut;cases hwc;go_wp2;go_loopw [52] (λ i wr=>∃ (j:Nat) (k' n':Int) (a':Option Addr) (l' c':Nat),i = .int .i64 j/\1+j<=n/\w6.grownBy wr (some T0)/\wr.heap[T0]?=some (.cells #[.int .i64 k', .int .i64 n', .slice a' l' c'] 36 (0,0)) /\
     Rd wr (Sx w S (λ b=>b=w.heap.size+1+1\/b=T0) wr) (mh ((D.map (·.1)).take (j+1))).aI [.int .i64 k', .int .i64 n', .slice a' l' c']) (λ i wr=>n - kN i)
    .exact⟨0,_,_,_,_,_,rfl,by omega,⟨rfl,rfl,rfl,a7P _,λ _ _ _=>rfl⟩,n4,r6⟩
    obtain⟨j,ak,an,aa,al,ac,rfl,hjn,mZ,nD,ON⟩:=hrel;have br:RowKit.Below w.heap.size w wr:=b6.grown mZ (by omega) (λ q e=>by have e':T0=q:=a8I e;omega);have ltr:=bz nD;have szr:=mZ.size;by_cases Y3:1+j<n
    .have ho4:o=4:=ho.resolve_left (by omega);subst ho4;obtain⟨t,ht⟩:∃ t,D[j+1]?=some t:=⟨_,a7L (by omega)⟩;have hct:=(a5F (j+1) t ht).aK (mZ.block gl (by omega) (λ e=>by have e':gl=T0:=a8I e;omega));have y0:wr.cell? ⟨gl,4+j * 4,none⟩=some (.string ⟨(bE t.1).toArray⟩):=by have:=hct 0 _ rfl;rwa [show (j+1) * 4+0=4+j * 4 by omega] at this
     have y1:wr.cell? ⟨gl,4+j * 4+1,none⟩=some (.int .i64 t.2.1):=by have:=hct 1 _ rfl;rwa [show (j+1) * 4+1=4+j * 4+1 by omega] at this
     have y2:wr.cell? ⟨gl,4+j * 4+2,none⟩=some (.int .i64 t.2.2.1):=by have:=hct 2 _ rfl;rwa [show (j+1) * 4+2=4+j * 4+2 by omega] at this
     have y3:wr.cell? ⟨gl,4+j * 4+3,none⟩=some (.slice t.2.2.2.1 t.2.2.2.2.1 t.2.2.2.2.2):=by have:=hct 3 _ rfl;rwa [show (j+1) * 4+3=4+j * 4+3 by omega] at this
     have bj0:(0:Int)<=(j:Int):=by omega
     have bj1:(j:Int)<((n - 1:Nat):Int):=by omega
     obtain⟨⟨v0,v1',v2⟩,_,_,_⟩:=pC nD;go_upto_region 18 with fail;have rt:Rd w S t.1.aI (Pr t):=a2A t (a8i ht);have n7:=a8Q wr (.cells #[.string ⟨(bE t.1).toArray⟩, .int .i64 t.2.1, .int .i64 t.2.2.1, .slice t.2.2.2.1 t.2.2.2.2.1 t.2.2.2.2.2] 138);have b7:RowKit.Below w.heap.size w (wr.alloc (.cells #[.string ⟨(bE t.1).toArray⟩, .int .i64 t.2.1, .int .i64 t.2.2.1, .slice t.2.2.2.1 t.2.2.2.2.1 t.2.2.2.2.2] 138)):=br.alloc (by omega) _;have k7:bJ (λ _=>False) wr (wr.alloc (.cells #[.string ⟨(bE t.1).toArray⟩, .int .i64 t.2.1, .int .i64 t.2.2.1, .slice t.2.2.2.1 t.2.2.2.2.1 t.2.2.2.2.2] 138)):=⟨rfl,rfl,rfl,by simp,λ b hb _=>a8K _ _ _ hb⟩;have s7:(wr.alloc (.cells #[.string ⟨(bE t.1).toArray⟩, .int .i64 t.2.1, .int .i64 t.2.2.1, .slice t.2.2.2.1 t.2.2.2.2.1 t.2.2.2.2.2] 138)).heap.size=wr.heap.size+1:=by simp
     generalize wr.alloc (.cells #[.string ⟨(bE t.1).toArray⟩, .int .i64 t.2.1, .int .i64 t.2.2.1, .slice t.2.2.2.1 t.2.2.2.2.1 t.2.2.2.2.2] 138)=w7 at *
     have q0:w7.cell? ⟨wr.heap.size,1,none⟩=some (.int .i64 t.2.1):=by simp[World.cell?,n7]
     have q1:w7.cell? ⟨wr.heap.size,2,none⟩=some (.int .i64 t.2.2.1):=by simp[World.cell?,n7]
     have q2:w7.cell? ⟨wr.heap.size,3,none⟩=some (.slice t.2.2.2.1 t.2.2.2.2.1 t.2.2.2.2.2):=by simp[World.cell?,n7]
     have t7:=(k7.block _ ltr id).trans nD;obtain⟨⟨v3,v4,v5⟩,_,_,_⟩:=pC t7;have n8:=a8Q w7 (.cells #[.int .i64 ak, .int .i64 an, .slice aa al ac, .int .i64 t.2.1, .int .i64 t.2.2.1, .slice t.2.2.2.1 t.2.2.2.2.1 t.2.2.2.2.2] 36);rw[s7] at n8;have sbr:=br.size;have b8:RowKit.Below w.heap.size w (w7.alloc (.cells #[.int .i64 ak, .int .i64 an, .slice aa al ac, .int .i64 t.2.1, .int .i64 t.2.2.1, .slice t.2.2.2.1 t.2.2.2.2.1 t.2.2.2.2.2] 36)):=b7.alloc (by omega) _;have k8:bJ (λ _=>False) w7 (w7.alloc (.cells #[.int .i64 ak, .int .i64 an, .slice aa al ac, .int .i64 t.2.1, .int .i64 t.2.2.1, .slice t.2.2.2.1 t.2.2.2.2.1 t.2.2.2.2.2] 36)):=⟨rfl,rfl,rfl,by simp,λ b hb _=>a8K _ _ _ hb⟩;have s8:(w7.alloc (.cells #[.int .i64 ak, .int .i64 an, .slice aa al ac, .int .i64 t.2.1, .int .i64 t.2.2.1, .slice t.2.2.2.1 t.2.2.2.2.1 t.2.2.2.2.2] 36)).heap.size=w7.heap.size+1:=by simp
     have rr8:=Og hS b7 k8 (Og hS br k7 ON);have ry8:=RN (λ b=>b=w.heap.size+1+1\/b=T0) hS b8 rt;have hZ8:∀ b,(b=w.heap.size+1+1\/b=T0)->b<(w7.alloc (.cells #[.int .i64 ak, .int .i64 an, .slice aa al ac, .int .i64 t.2.1, .int .i64 t.2.2.1, .slice t.2.2.2.1 t.2.2.2.2.1 t.2.2.2.2.2] 36)).heap.size:=λ b h=>by rw[s8];rcases h with h|h<;>omega
     go_wp2_with (go_at_call 24;refine (TF (Z:=λ b=>b=w.heap.size+1+1\/b=T0) hS b8 hZ8 _ t.1 _ _ _ _ _ _ rr8 ry8 (wr.heap.size+1) n8 (by omega) (by omega)).mono ?_);intro e w9 fk fn fa fm fc he UA r9;subst he;have t9:=(UA.block T0 (by rw[s8];omega) id).trans ((k8.block _ (by omega) id).trans t7);obtain⟨⟨x0,x1,x2⟩,y0',y1',y2'⟩:=pC t9;have b9:=b8.trans (oX UA b8.size);go_wp2;obtain⟨z9,o9⟩:=Oa (.int .i64 fk) (.int .i64 fn) (.slice fa fm fc) t9;have s9:=UA.size;have hj:=J6 (D.map (·.1)) (j+1) t.1 (by omega) (by rw[a8T,ht];rfl);refine⟨⟨j+1,fk,fn,fa,fm,fc,by simp,by omega,⟨UA.os.trans (k7.os.trans mZ.os),UA.tape.trans (k7.tape.trans mZ.tape),UA.output.trans (k7.output.trans mZ.output),by simp;omega,λ q hq dm=>?_⟩,z9,?_⟩,?_⟩
     .have Aj:q<wr.heap.size:=by omega
      exact (o9 q (λ e=>dm (by rw[e]))).trans ((UA.block q (by rw[s8];omega) id).trans ((k8.block q (by omega) id).trans ((k7.block q Aj id).trans (mZ.block q hq dm))))
     .rw[hj];exact pq (Z:=λ b=>b=w.heap.size+1+1\/b=T0) hS b9 (by simp) (λ b h=>by rcases h with h|h<;>omega) (λ b _ hb=>o9 b λ e=>hb (.inr e)) (λ _ _ h=>h) r9
     .simp only[kN];omega
    .have a7n:1+j=n:=by omega
     have bjn:¬ (j:Int)<((n - 1:Nat):Int):=by omega
     have zr:=(mZ.block (w.heap.size+1+1) (by omega) (λ e=>by have e':=Option.some.inj e;omega)).trans z6;obtain⟨⟨k0,k1',k2'⟩,g0,g1,g2⟩:=pC nD;obtain⟨⟨x0,x1,x2⟩,y0,y1,y2⟩:=pC zr;obtain⟨z9,o9⟩:=Oa (.int .i64 ak) (.int .i64 an) (.slice aa al ac) zr;go_wp2;refine DX (cs:=[.int .i64 ak, .int .i64 an, .slice aa al ac]) rfl z9 rfl rfl ?_;refine⟨[.int .i64 ak, .int .i64 an, .slice aa al ac],rfl,?_,br.os,br.tape,br.output,by simpa using br.size,λ b hb _=>(o9 b (by omega)).trans (br.block b hb)⟩;(try rw[W8]);rw[show (D.map (·.1)).take (j+1)=D.map (·.1) from List.take_of_length_le (by rw[List.length_map];omega)] at ON;exact pq (Z:=λ b=>b=w.heap.size+1+1\/b=T0) hS br (by simp) (λ b h=>by rcases h with h|h<;>omega) (λ b _ hb=>o9 b λ e=>hb (.inl e)) (λ b _ h=>h.elim) ON
def qn:aW:=⟨zJ,[.v (.st .expr), .v (.st .expr)],λ (x:J) (b:J)=>⟨(some (aB x=true/\aB b=true/\aj x+aj b<=7000),[⟨(.st .expr),Ln x b⟩])⟩⟩
def ED:aW.Good qn:=by
 refine⟨aD H6 rfl (by decide),?_⟩;intro x y hp w S cj hS ha;match cj,ha with
 | [v1,v2],ha =>
  obtain⟨⟨cx,rfl,rx⟩,⟨cy,rfl,ry⟩,_⟩:=ha;refine (O8 w S hS x y hp.1 hp.2.1 hp.2.2 cx cy rx ry).mono ?_;rintro e w' ⟨cs,rfl,hr,hk⟩;exact⟨_,Sx w S (λ _=>False) w',_,rfl,rfl,hk,λ b hb=>⟨λ h=>h.elim id λ h=>by omega, .inl⟩,λ b h=>h.elim (λ h=>a7F (hS.1 b h) hk.size) λ h=>h.2.1,⟨cs,rfl,hr⟩⟩
end
end Go.Proofs.YtncejbehidimmaaGreatDoor

namespace Go.Proofs.YtncejbehidimmaaGreatDoor
noncomputable section
def a5l(a:Int)(x:J)(h:x.ai=2):true=eE a x:=by rw[<-VK a x (by omega) (by omega) (by omega) (by omega),Oq];simp[O7,h]
def a5k(a:Int)(x:J)(h:x.ai=1):false=eE a x:=by rw[<-VK a x (by omega) (by omega) (by omega) (by omega),Oq];simp[O7,h]
def a5j(a:Int)(x:J)(hg:aB x=true)(h2:¬ x.ai=2)(h8:¬ x.ai=8)(h3:¬ x.ai=3)(h5:¬ x.ai=5)(h6:¬ x.ai=6)(h7:¬ x.ai=7):false=eE a x:=by
 rcases ew x hg with h|h|h|h|h|h|h|h
 .exact a5k a x h
 .exact absurd h h2
 .exact absurd h h3
 .exact a2c a x h
 .exact absurd h h5
 .exact absurd h h6
 .exact absurd h h7
 .exact absurd h h8
noncomputable def Ld(x:J):J:=if aj x<=800 then ej x else J.mk (0:Int) (0:Int) []
noncomputable def cr(a c:Int)(x:J):J:=if (bQ a c x).2=true then (bQ a c x).1 else J.mk (0:Int) (0:Int) []
def a2D(x:J)(h:¬ 800<aj x):ej x=Ld x:=by rw[Ld,a7E (by omega)]
def SQ(x:J)(h:800<aj x):J.mk (0:Int) (0:Int) []=Ld x:=by rw[Ld,a7z (by omega)]
def AS{a c:Int}{x:J}(h:(bQ a c x).2=true):cr a c x=(bQ a c x).1:=by rw[cr,a7E h]
def a1W{a c:Int}{x:J}(h:(bQ a c x).2=false):cr a c x=J.mk (0:Int) (0:Int) []:=by rw[cr,a7z (by rw[h];decide)]
structure oT(a c:Int)(x raw:J):Prop where
 e1:Ld raw=cr a c x
 e2:decide (aj raw<=800)=(bQ a c x).2
 g:aB raw=true
 n:aj raw<=3000
def oT.of{a c:Int}{x:J}(j:CF a c x):oT a c x (ll a c x):=by
 by_cases h:800<aj (ll a c x)
 .have e:=a0m a c x j h;exact⟨by rw[a1W (by rw[e]),SQ _ h],by rw[e];simp;omega,j.g,j.n⟩
 .have e:=a0l a c x j h;exact⟨by rw[AS (by rw[e]),e,a2D _ h],by rw[e];simp;omega,j.g,j.n⟩
def VH(a c:Int)(x:J)(hg:aB x=true)(hn:aj x<=1000)(h:x.ai=6)(e:(bQ a c (x.O.getD 0 zE)).2=true)(e':(bQ a c (x.O.getD 1 zE)).2=true):oT a c x (J.mk 6 0 [cr a c (x.O.getD 0 zE),cr a c (x.O.getD 1 zE)]):=by
 rw[AS e,AS e',<-Ti a c x h];exact oT.of (a0j a c x hg hn h e e')
def Qz(a c:Int)(x:J)(hg:aB x=true)(hn:aj x<=1000)(h:x.ai=7)(e:(bQ a c (x.O.getD 0 zE)).2=true)(m:eE a (x.O.getD 0 zE)=true)(e':(bQ a c (x.O.getD 1 zE)).2=true):oT a c x (J.mk 6 0 [J.mk 7 0 [cr a c (x.O.getD 0 zE),(x.O.getD 1 zE)],cr a c (x.O.getD 1 zE)]):=by
 rw[AS e,AS e',<-N2 a c x h m];exact oT.of (RH a c x hg hn h e (.inr ⟨m,e'⟩))
def Qy(a c:Int)(x:J)(hg:aB x=true)(hn:aj x<=1000)(h:x.ai=7)(e:(bQ a c (x.O.getD 0 zE)).2=true)(m:eE a (x.O.getD 0 zE)=false):oT a c x (J.mk 7 0 [cr a c (x.O.getD 0 zE),(x.O.getD 1 zE)]):=by
 rw[AS e,<-N1 a c x h m];exact oT.of (RH a c x hg hn h e (.inl m))
def VI(a c:Int)(x:J)(hg:aB x=true)(hn:aj x<=1000)(h:x.ai=8)(e:(bQ a c (x.O.getD 0 zE)).2=true):oT a c x (J.mk 7 0 [cr a c (x.O.getD 0 zE),x]):=by
 rw[AS e,<-Tj a c x h];exact oT.of (a0k a c x hg hn h e)
structure nO(a c:Int)(x:J):Prop where
 e1:J.mk (0:Int) (0:Int) []=cr a c x
 e2:false=(bQ a c x).2
def nO.of{a c:Int}{x y:J}(h:bQ a c x=(y,false)):nO a c x:=⟨(a1W (by rw[h])).symm,by rw[h]⟩
structure Au(a c:Int)(x y:J):Prop where
 e1:y=cr a c x
 e2:true=(bQ a c x).2
def Au.of{a c:Int}{x y:J}(h:bQ a c x=(y,true)):Au a c x y:=⟨by rw[AS (by rw[h]),h],by rw[h]⟩
structure a4q(a c:Int)(x:J):Prop where
 g:(bQ a c x).2=true->aB (cr a c x)=true
 n:(bQ a c x).2=true->aj (cr a c x)<=800
def diT(a c:Int)(x:J)(h:aB x=true):a4q a c x:=by
 have q:=Xz a c x h;exact⟨λ e=>by rw[AS e];exact q.g e,λ e=>by rw[AS e];exact q.n e⟩
def kp(n:Nat):aW:=⟨qx,[.v (.st .expr), .v (.int .i64)],λ (x:J) (atom:Int)=>⟨(some (bu x<n/\aB x=true/\0<=atom/\atom<=4096),[⟨.bool,eE atom x⟩])⟩⟩
def lN:aW:=⟨qx,[.v (.st .expr), .v (.int .i64)],λ (x:J) (atom:Int)=>⟨(some (aB x=true/\0<=atom/\atom<=4096),[⟨.bool,eE atom x⟩])⟩⟩
def KP(x:J)(atom:Int):Nat->aL:=cB
abbrev uO(n:Nat)(x:J)(atom:Int):Prop:=(let v0:=x.O.getD 1 zE;(x.O.length<=140737488355328 ->
 (aE (1:Int) x.O.length/\((bu v0<n/\aB v0=true/\0<=atom/\atom<=4096)/\(eE atom v0)=(eE atom x)))))
abbrev uP(n:Nat)(x:J)(atom:Int):Prop:=(let v0:=x.O.getD 0 zE;let v1:=bu v0<n/\aB v0=true/\0<=atom/\atom<=4096;let v2:=eE atom v0;(((decide (x.ai=(6:Int)))=true ->
 (x.O.length<=140737488355328 ->
 (aE (0:Int) x.O.length/\(v1/\((v2=false ->
 (uO n x atom))/\(v2=(!false) ->
 true=(eE atom x)))))))/\((decide (x.ai=(6:Int)))=false ->
 (((decide (x.ai=(7:Int)))=true ->
 (x.O.length<=140737488355328 ->
 (aE (0:Int) x.O.length/\(v1/\((v2=true ->
 (uO n x atom))/\(v2=(!true) ->
 false=(eE atom x)))))))/\((decide (x.ai=(7:Int)))=false ->
 false=(eE atom x))))))
abbrev uQ(n:Nat)(x:J)(atom:Int):Prop:=(let v0:=(gX x=true/\0<=atom/\atom<=4096)/\(fU atom x)=(eE atom x);let v1:=decide (x.ai=(3:Int));((v1=true ->
 ((v1=true ->
 v0)/\(v1=false ->
 (uP n x atom))))/\(v1=false ->
 (((decide (x.ai=(5:Int)))=true ->
 v0)/\((decide (x.ai=(5:Int)))=false ->
 (uP n x atom))))))
def Jb(n:Nat)(hE:bj [kp n,wg]):aW.Good (kp (n+1)):=by
 refine⟨aD jV,?_⟩;intro (x:J) (atom:Int) (hp:bu x<n+1/\aB x=true/\0<=atom/\atom<=4096);refine aV [kp n,wg] [] [] [2] hE jV D9 (KP x atom) (let v0:=decide (x.ai=(2:Int));((au x.ai->((v0=true->((v0=true->true=(eE atom x))/\(v0=false->(uQ n x atom))))/\(v0=false->(((decide (x.ai=(8:Int)))=true->true=(eE atom x))/\((decide (x.ai=(8:Int)))=false->(uQ n x atom)))))))) ?_;obtain⟨hm,hg,h0,h1⟩:=hp;refine λ _=>⟨λ _=>⟨λ _=>?_,λ _=>⟨λ _=>⟨λ _=>⟨?_,?_⟩,λ _=>⟨λ _ _=>⟨?_,?_,λ _ _=>⟨?_,?_,?_⟩,λ _=>?_⟩,λ _=>⟨λ _ _=>⟨?_,?_,λ _ _=>⟨?_,?_,?_⟩,λ _=>?_⟩,λ _=>?_⟩⟩⟩,λ _=>⟨λ _=>⟨?_,?_⟩,λ _=>⟨λ _ _=>⟨?_,?_,λ _ _=>⟨?_,?_,?_⟩,λ _=>?_⟩,λ _=>⟨λ _ _=>⟨?_,?_,λ _ _=>⟨?_,?_,?_⟩,λ _=>?_⟩,λ _=>?_⟩⟩⟩⟩⟩,λ _=>⟨λ _=>?_,λ _=>⟨λ _=>⟨λ _=>⟨?_,?_⟩,λ _=>⟨λ _ _=>⟨?_,?_,λ _ _=>⟨?_,?_,?_⟩,λ _=>?_⟩,λ _=>⟨λ _ _=>⟨?_,?_,λ _ _=>⟨?_,?_,?_⟩,λ _=>?_⟩,λ _=>?_⟩⟩⟩,λ _=>⟨λ _=>⟨?_,?_⟩,λ _=>⟨λ _ _=>⟨?_,?_,λ _ _=>⟨?_,?_,?_⟩,λ _=>?_⟩,λ _=>⟨λ _ _=>⟨?_,?_,λ _ _=>⟨?_,?_,?_⟩,λ _=>?_⟩,λ _=>?_⟩⟩⟩⟩⟩⟩;all_goals try and_intros
 all_goals first|rfl|trivial|omega|((try simp only[a7D,a7C,aE,Bool.true_or,b0u,b1D,b1u,Bool.or_true,b0L,J.eta] at *);first|rfl|omega|exact a5j atom x hg (by omega) (by omega) (by omega) (by omega) (by omega) (by omega)|exact a5l atom x (by omega)|exact a2f atom x (by omega)|exact VK atom x (by omega) (by omega) (by omega) (by omega)|exact VT x hg (by have:=ew x hg;omega)|(have b:=cG x hg (by omega);first|(have:=b.len;omega)|exact b.g0|exact b.g1|(have:=b.l0;omega)|(have:=b.l1;omega)|(rw[a2d atom x (by omega) b];simp_all;done)|(rw[a2e atom x (by omega) b];simp_all;done)))
def Pk :∀ n,bj [kp n]
 | 0=>⟨⟨aD jV,λ _ _ h=>absurd h.1 (a8a _)⟩,af⟩
 | n+1=>by
  have ih:=Pk  n;exact⟨Jb n ⟨ih.1,Iw,af⟩,af⟩
def sJ :aW.Good lN :=
 ⟨aD jV,λ x atom hp=>(Pk  (bu x+1)).1.2 x atom (⟨a7M _,hp⟩)⟩
def jo(n:Nat):aW:=⟨ov,[.v (.st .expr)],λ (x:J)=>⟨(some (bu x<n/\aj x<=1048576),[⟨(.int .i64),(aj x:Int)⟩])⟩⟩
def xn:aW:=⟨ov,[.v (.st .expr)],λ (x:J)=>⟨(some (aj x<=1048576),[⟨(.int .i64),(aj x:Int)⟩])⟩⟩
def IW(x:J):Nat->aL:=(eS 0 (.b (Nat) (λ k=>k<=x.O.length) (λ k=>x.O.length - k) [0,1,2,6] (λ k=>[(9, .aQ ⟨(.int .i64),((k:Int):Int)⟩),(3, .aQ ⟨(.int .i64),((1+cg aj (x.O.take k):Int):Int)⟩)])) cB)
def Hr(n:Nat)(hE:bj [jo n]):aW.Good (jo (n+1)):=by
 refine⟨aD jj,?_⟩;intro (x:J) (hp:bu x<n+1/\aj x<=1048576);refine aV [jo n] [] [] [1] hE jj CM (IW x) (let v0:=(x.O.length:Int);((x.O.length<=140737488355328->(au v0->((∃ k1:Nat,(k1<=x.O.length/\(((1:Int)=(1+cg aj (x.O.take k1):Int)/\(x.O=x.O/\(v0=v0/\((0:Int)=(k1:Int)/\True))))/\True)))/\(∀ k1:Nat,let v1:=aP (x.O.getD k1 zE);let v2:=(1+cg aj (x.O.take k1):Int);let v3:=(aj v1:Int);(k1<=x.O.length->(((decide ((k1:Int)<v0))=true->(aE (k1:Int) x.O.length/\((bu v1<n/\aj v1<=1048576)/\(au v3->(au (v2+v3)/\(au ((k1:Int)+(1:Int))/\(∃ k2:Nat,(k2<=x.O.length/\(x.O.length - k2<x.O.length - k1/\(((v2+v3)=(1+cg aj (x.O.take k2):Int)/\(x.O=x.O/\(v0=v0/\(((k1:Int)+(1:Int))=(k2:Int)/\True))))/\True))))))))))/\((decide ((k1:Int)<v0))=false->v2=(aj x:Int)))))))))) ?_;rw[gJ x] at hp;have f0:=er x;have f1:=xO aj x.O;refine λ _ _=>⟨⟨0,?_,⟨?_,rfl,rfl,?_,af⟩,af⟩,λ k1 _=>have a4B:=kL aj zE x.O k1;have a4C:=dH aj x.O k1;have a4D:=dH aj x.O (k1+1);have a4E:=pw aj x.O k1;have a4F:=cf zE x.O k1;⟨λ _=>⟨?_,?_,λ _=>⟨?_,?_,k1+1,?_,?_,⟨?_,rfl,rfl,?_,af⟩,af⟩⟩,λ _=>?_⟩⟩;all_goals try and_intros
 all_goals try (first|with_reducible rfl|with_reducible assumption)
 all_goals try simp only[J.eta,cu] at *
 all_goals try rw[gJ x]
 all_goals first|rfl|trivial|omega|(simp only[a7D,a7C,aE,au,cI,iE,cN,bB] at *;omega)|(simp[aE,au] at *;omega)|grind
def JC :∀ n,bj [jo n]
 | 0=>⟨⟨aD jj,λ _ h=>absurd h.1 (a8a _)⟩,af⟩
 | n+1=>by
  have ih:=JC  n;exact⟨Hr n ⟨ih.1,af⟩,af⟩
def C0 :aW.Good xn :=
 ⟨aD jj,λ x hp=>(JC  (bu x+1)).1.2 x (⟨a7M _,hp⟩)⟩
def kq(n:Nat):aW:=⟨qy,[.v (.st .expr), .v (.st .expr)],λ (x:J) (b:J)=>⟨(some (bu x<n/\aB x=true/\aB b=true/\aj x+aj b<=4000),[⟨(.st .expr),jx x b⟩])⟩⟩
def qm:aW:=⟨qy,[.v (.st .expr), .v (.st .expr)],λ (x:J) (b:J)=>⟨(some (aB x=true/\aB b=true/\aj x+aj b<=4000),[⟨(.st .expr),jx x b⟩])⟩⟩
def KR(x:J)(b:J):Nat->aL:=cB
abbrev uR(n:Nat)(x:J)(b:J):Prop:=(let v0:=x.O.getD 1 zE;let v1:=x.O.getD 0 zE;(au x.ai ->
 (((decide (x.ai=(2:Int)))=true ->
 (aP b)=(jx x b))/\((decide (x.ai=(2:Int)))=false ->
 (au b.ai ->
 (((decide (b.ai=(2:Int)))=true ->
 (aP x)=(jx x b))/\((decide (b.ai=(2:Int)))=false ->
 (au x.ai ->
 (((decide (x.ai=(7:Int)))=true ->
 (aE (0:Int) x.O.length/\(aE (1:Int) x.O.length/\((bu v0<n/\aB v0=true/\aB b=true/\aj v0+aj b<=4000)/\(x.O.length<=140737488355328 ->
 (x.O.length<=140737488355328 ->
 ((bu v1<n/\aB v1=true/\aB (jx v0 b)=true/\aj v1+aj (jx v0 b)<=4000)/\(aP (jx v1 (jx v0 b)))=(jx x b))))))))/\((decide (x.ai=(7:Int)))=false ->
 (aP (J.mk (7:Int) 0 ([x,b])))=(jx x b)))))))))))
def Jc(n:Nat)(hE:bj [kq n,gA,fi]):aW.Good (kq (n+1)):=by
 refine⟨aD jW,?_⟩;intro (x:J) (b:J) (hp:bu x<n+1/\aB x=true/\aB b=true/\aj x+aj b<=4000);refine aV [kq n,gA,fi] [] [] [2,3,42] hE jW Eb (KR x b) (let v0:=aP (J.mk (1:Int) (0:Int) []);((au x.ai->(((decide (x.ai=(1:Int)))=false->(au b.ai->(((decide (b.ai=(1:Int)))=true->v0=(jx x b))/\((decide (b.ai=(1:Int)))=false->(uR n x b)))))/\((decide (x.ai=(1:Int)))=(!false)->((true=true->v0=(jx x b))/\(true=false->(uR n x b)))))))) ?_;obtain⟨hm,hg,hb,hn⟩:=hp;refine λ _=>⟨λ _ _=>⟨λ _=>?_,λ _ _=>⟨λ _=>?_,λ _ _=>⟨λ _=>?_,λ _ _=>⟨λ _=>⟨?_,?_,?_,λ _ _=>⟨?_,?_⟩⟩,λ _=>?_⟩⟩⟩⟩,λ _=>⟨λ _=>?_,λ _ _=>⟨λ _=>?_,λ _ _=>⟨λ _=>?_,λ _ _=>⟨λ _=>⟨?_,?_,?_,λ _ _=>⟨?_,?_⟩⟩,λ _=>?_⟩⟩⟩⟩⟩;all_goals try and_intros
 all_goals try (first|with_reducible rfl|with_reducible assumption)
 all_goals try simp only[J.eta,cu] at *
 all_goals (try simp only[a8s,a8x,a7D,a7C,aE,J.eta] at *);first|rfl|trivial|omega|exact mD _ (by omega)|exact (Gj x b (by omega)).symm|exact (Gk x b (by omega) (by omega)).symm|exact (Gl x b (by omega) (by omega) (by omega)).symm|exact (Gp x b (by omega) (by omega) (by omega) (by omega)).symm|with_reducible assumption|(have g:=cG x hg (by omega);first|(have:=g.len;omega)|exact g.g0|exact g.g1|(have:=g.l0;omega)|(have:=g.l1;omega)|exact (dtT _ b g.g1 hb).g|(have:=g.nd;omega)|(have:=g.nd;have:=(dtT _ b g.g1 hb).n;omega)|exact (Gm x b (by omega) (by omega) (by omega) (by omega) g).symm)|exact congrArg J.ai (Gj x b (by omega)).symm|exact congrArg J.ai (Gk x b (by omega) (by omega)).symm|exact congrArg J.ai (Gl x b (by omega) (by omega) (by omega)).symm|exact congrArg J.ai (Gp x b (by omega) (by omega) (by omega) (by omega)).symm|exact congrArg J.ai (Gm x b (by omega) (by omega) (by omega) (by omega) (cG x hg (by omega))).symm|exact congrArg J.aZ (Gj x b (by omega)).symm|exact congrArg J.aZ (Gk x b (by omega) (by omega)).symm|exact congrArg J.aZ (Gl x b (by omega) (by omega) (by omega)).symm|exact congrArg J.aZ (Gp x b (by omega) (by omega) (by omega) (by omega)).symm|exact congrArg J.aZ (Gm x b (by omega) (by omega) (by omega) (by omega) (cG x hg (by omega))).symm|exact congrArg J.O (Gj x b (by omega)).symm|exact congrArg J.O (Gk x b (by omega) (by omega)).symm|exact congrArg J.O (Gl x b (by omega) (by omega) (by omega)).symm|exact congrArg J.O (Gp x b (by omega) (by omega) (by omega) (by omega)).symm|exact congrArg J.O (Gm x b (by omega) (by omega) (by omega) (by omega) (cG x hg (by omega))).symm
def Ph :∀ n,bj [kq n]
 | 0=>⟨⟨aD jW,λ _ _ h=>absurd h.1 (a8a _)⟩,af⟩
 | n+1=>by
  have ih:=Ph  n;exact⟨Jc n ⟨ih.1,ga,eU,af⟩,af⟩
def EC :aW.Good qm :=
 ⟨aD jW,λ x b hp=>(Ph  (bu x+1)).1.2 x b (⟨a7M _,hp⟩)⟩
def om:aW:=⟨xD,[.v (.st .expr)],λ (x:J)=>⟨(some (aB x=true/\aj x<=4000),[⟨(.st .expr),BZ x⟩])⟩⟩
def I0(x:J):Nat->aL:=cB
def C6:aW.Good om:=by
 refine⟨aD uw,?_⟩;intro (x:J) (hp:aB x=true/\aj x<=4000);refine aV [gP,fi,gA] [] [] [1,13] ⟨mW,eU,ga,af⟩ uw CT (I0 x) ((((bH x)=true->(aP (J.mk (2:Int) (0:Int) []))=(BZ x))/\((bH x)=false->(au x.ai->(((decide (x.ai=(8:Int)))=true->(aP x)=(BZ x))/\((decide (x.ai=(8:Int)))=false->(aP (J.mk (8:Int) 0 ([x])))=(BZ x))))))) ?_;obtain⟨hg,hn⟩:=hp;refine⟨λ _=>?_,λ _ _=>⟨λ _=>?_,λ _=>?_⟩⟩;all_goals try and_intros
 all_goals try (first|with_reducible rfl|with_reducible assumption)
 all_goals try simp only[J.eta,cu] at *
 all_goals (try simp only[decide_eq_true_eq,decide_eq_false_iff_not,aE,J.eta] at *);first|rfl|trivial|omega|exact mD _ (by omega)|(unfold BZ;first|(rw[if_pos (by with_reducible assumption)];done)|(rw[if_neg (by simp_all),if_pos (by with_reducible assumption)];done)|(rw[if_neg (by simp_all),if_neg (by with_reducible assumption)];done))
def C4:aW.Good jt:=BR.plain
def oL(n:Nat):aW:=⟨yD,[.v (.st .expr)],λ (x:J)=>⟨(some (bu x<n/\aB x=true/\aj x<=3000),[⟨(.st .expr),ej x⟩])⟩⟩
def rq:aW:=⟨yD,[.v (.st .expr)],λ (x:J)=>⟨(some (aB x=true/\aj x<=3000),[⟨(.st .expr),ej x⟩])⟩⟩
def Re(x:J):Nat->aL:=cB
def O1(n:Nat)(hE:bj [oL n,qn,qm,om,jt]):aW.Good (oL (n+1)):=by
 refine⟨aD oI,?_⟩;intro (x:J) (hp:bu x<n+1/\aB x=true/\aj x<=3000);refine aV [oL n,qn,qm,om,jt] [] [] [1] hE oI Kt (Re x) (let v0:=x.O.getD 0 zE;let v1:=x.O.getD 1 zE;let v2:=bu v0<n/\aB v0=true/\aj v0<=3000;let v3:=bu v1<n/\aB v1=true/\aj v1<=3000;let v4:=ej v0;((au x.ai->(((decide (x.ai=(6:Int)))=true->(aE (0:Int) x.O.length/\(v2/\(aE (1:Int) x.O.length/\(x.O.length<=140737488355328->(x.O.length<=140737488355328->(v3/\((aB v4=true/\aB (ej v1)=true/\aj v4+aj (ej v1)<=7000)/\(aP (Ln v4 (ej v1)))=(ej x)))))))))/\((decide (x.ai=(6:Int)))=false->(((decide (x.ai=(7:Int)))=true->(aE (0:Int) x.O.length/\(v2/\(aE (1:Int) x.O.length/\(x.O.length<=140737488355328->(x.O.length<=140737488355328->(v3/\((aB v4=true/\aB (ej v1)=true/\aj v4+aj (ej v1)<=4000)/\(aP (jx v4 (ej v1)))=(ej x)))))))))/\((decide (x.ai=(7:Int)))=false->(((decide (x.ai=(8:Int)))=true->(x.O.length<=140737488355328->(aE (0:Int) x.O.length/\(v2/\((aB v4=true/\aj v4<=4000)/\(aP (BZ v4))=(ej x))))))/\((decide (x.ai=(8:Int)))=false->(aU x<=1048576/\(aP x)=(ej x))))))))))) ?_;obtain⟨hm,hg,hn⟩:=hp;refine λ _=>⟨λ _=>⟨?_,?_,?_,λ _ _=>⟨?_,?_,?_⟩⟩,λ _=>⟨λ _=>⟨?_,?_,?_,λ _ _=>⟨?_,?_,?_⟩⟩,λ _=>⟨λ _ _=>⟨?_,?_,?_,?_⟩,λ _=>⟨?_,?_⟩⟩⟩⟩;all_goals try and_intros
 all_goals try (first|with_reducible rfl|with_reducible assumption)
 all_goals try simp only[J.eta,cu] at *
 all_goals (try simp only[a8s,a8x,a7D,a7C,aE,J.eta] at *);first|rfl|trivial|omega|exact mD _ (by omega)|(have g:=jG x hg (.inr (by omega));first|(have:=g.len;omega)|exact g.g0|(have:=g.l0;omega)|(have:=g.nd;omega)|exact (B5 _ g.g0).g|(have:=(B5 _ g.g0).n;have:=g.nd;omega)|(rw[a0D x (by omega) g]<;>rfl))|(have g:=cG x hg (by omega);first|(have:=g.len;omega)|exact g.g0|exact g.g1|(have:=g.l0;omega)|(have:=g.l1;omega)|(have:=g.nd;omega)|exact (B5 _ g.g0).g|exact (B5 _ g.g1).g|(have:=(B5 _ g.g0).n;have:=(B5 _ g.g1).n;have:=g.nd;omega)|(rw[a0B x (by omega) g]<;>rfl)|(rw[a0C x (by omega) g]<;>rfl))|(rw[a0E x (by omega) (by omega) (by omega)]<;>rfl)
def Pm :∀ n,bj [oL n]
 | 0=>⟨⟨aD oI,λ _ h=>absurd h.1 (a8a _)⟩,af⟩
 | n+1=>by
  have ih:=Pm  n;exact⟨O1 n ⟨ih.1,ED,EC,C6,C4,af⟩,af⟩
def qd :aW.Good rq :=
 ⟨aD oI,λ x hp=>(Pm  (bu x+1)).1.2 x (⟨a7M _,hp⟩)⟩
def ql:aW:=⟨zI,[.v (.st .expr)],λ (x:J)=>⟨(some (aB x=true/\aj x<=3000),[⟨(.st .expr),Ld x⟩,⟨.bool,decide (aj x<=800)⟩])⟩⟩
def KQ(x:J):Nat->aL:=cB
def EB:aW.Good ql:=by
 refine⟨aD wF,?_⟩;intro (x:J) (hp:aB x=true/\aj x<=3000);refine aV [xn,rq] [] [] [1] ⟨C0,qd,af⟩ wF Ea (KQ x) (let v0:=decide ((800:Int)<((aj x:Int)));((aj x<=1048576/\(au ((aj x:Int))->((v0=true->(zE=(Ld x)/\false=(decide (aj x<=800))))/\(v0=false->((aB x=true/\aj x<=3000)/\((aP (ej x))=(Ld x)/\true=(decide (aj x<=800)))))))))) ?_;obtain⟨hg,hn⟩:=hp;refine⟨?_,λ _=>⟨λ _=>⟨?_,?_⟩,λ _=>⟨?_,?_,?_⟩⟩⟩;all_goals try and_intros
 all_goals try (first|with_reducible rfl|with_reducible assumption)
 all_goals try simp only[J.eta,cu] at *
 all_goals (try simp only[a7D,a7C,aE,J.eta] at *);first|rfl|trivial|omega|exact SQ x (by omega)|exact a2D x (by omega)|(simp;omega)|exact congrArg J.ai (SQ x (by omega))|exact congrArg J.aZ (SQ x (by omega))|exact congrArg J.O (SQ x (by omega))
def km(n:Nat):aW:=⟨qw,[.v (.st .expr), .v (.int .i64), .v (.int .i64)],λ (x:J) (atom:Int) (act:Int)=>⟨(some (bu x<n/\aB x=true/\aj x<=1000/\0<=atom/\atom<=4096),[⟨(.st .expr),cr atom act x⟩,⟨.bool,(bQ atom act x).2⟩])⟩⟩
def zp:aW:=⟨qw,[.v (.st .expr), .v (.int .i64), .v (.int .i64)],λ (x:J) (atom:Int) (act:Int)=>⟨(some (aB x=true/\aj x<=1000/\0<=atom/\atom<=4096),[⟨(.st .expr),cr atom act x⟩,⟨.bool,(bQ atom act x).2⟩])⟩⟩
def KO(x:J)(atom:Int)(act:Int):Nat->aL:=cB
abbrev uL(x:J)(atom:Int)(act:Int):Prop:=((!((bQ atom act (x.O.getD 1 zE)).2))=true ->
 (zE=(cr atom act x)/\false=((bQ atom act x).2)))
abbrev uM(x:J)(atom:Int)(act:Int):Prop:=(let v0:=J.mk (6:Int) 0 ([(aP (cr atom act (x.O.getD 0 zE))),(aP (cr atom act (x.O.getD 1 zE)))]);((aB v0=true/\aj v0<=3000)/\((aP (Ld v0))=(cr atom act x)/\(decide (aj v0<=800))=((bQ atom act x).2))))
abbrev uN(x:J)(atom:Int)(act:Int):Prop:=((!((bQ atom act (x.O.getD 0 zE)).2))=true ->
 (zE=(cr atom act x)/\false=((bQ atom act x).2)))
def Ja(n:Nat)(hE:bj [km n,gA,fi,lN,ql]):aW.Good (km (n+1)):=by
 refine⟨aD jU,?_⟩;intro (x:J) (atom:Int) (act:Int) (hp:bu x<n+1/\aB x=true/\aj x<=1000/\0<=atom/\atom<=4096);refine aV [km n,gA,fi,lN,ql] [] [] [3,59,84,112,134] hE jU D8 (KO x atom act) (let v1:=x.O.getD 0 zE;let v3:=bu v1<n/\aB v1=true/\aj v1<=1000/\0<=atom/\atom<=4096;let v4:=J.mk (7:Int) 0 ([(aP (cr atom act v1)),x]);let v5:=x.O.getD 1 zE;let v0:=aP (J.mk (7:Int) 0 ([(aP (cr atom act v1)),v5]));let v2:=J.mk (6:Int) 0 ([v0,(aP (cr atom act v5))]);let v6:=(bQ atom act x).2;let v7:=bu v5<n/\aB v5=true/\aj v5<=1000/\0<=atom/\atom<=4096;let v8:=cr atom act x;let v9 := !((bQ atom act v1).2);let vb:=(0:Int);let va:=(aP (J.mk (1:Int) vb []))=v8/\true=v6;((au x.ai->(((decide (x.ai=(4:Int)))=true->(au x.aZ->(((decide (x.aZ=act))=true->((aP (J.mk (2:Int) vb []))=v8/\true=v6))/\((decide (x.aZ=act))=false->va))))/\((decide (x.ai=(4:Int)))=false->(((decide (x.ai=(6:Int)))=true->(x.O.length<=140737488355328->(aE vb x.O.length/\(v3/\(x.O.length<=140737488355328->(aE (1:Int) x.O.length/\(v7/\((v9=false->((uL x atom act)/\((!((bQ atom act v5).2))=false->(uM x atom act))))/\(v9=(!false)->((true=true->(zE=v8/\false=v6))/\(true=false->(uM x atom act))))))))))))/\((decide (x.ai=(6:Int)))=false->(((decide (x.ai=(7:Int)))=true->(x.O.length<=140737488355328->(aE vb x.O.length/\(v3/\((uN x atom act)/\(v9=false->(aE (1:Int) x.O.length/\(x.O.length<=140737488355328->(x.O.length<=140737488355328->(aE vb x.O.length/\((aB v1=true/\0<=atom/\atom<=4096)/\(((!(eE atom v1))=true->((aB v0=true/\aj v0<=3000)/\((aP (Ld v0))=v8/\(decide (aj v0<=800))=v6)))/\((!(eE atom v1))=false->(x.O.length<=140737488355328->(aE (1:Int) x.O.length/\(v7/\((uL x atom act)/\((!((bQ atom act v5).2))=false->((aB v2=true/\aj v2<=3000)/\((aP (Ld v2))=v8/\(decide (aj v2<=800))=v6))))))))))))))))))))/\((decide (x.ai=(7:Int)))=false->(((decide (x.ai=(8:Int)))=true->(x.O.length<=140737488355328->(aE vb x.O.length/\(v3/\((uN x atom act)/\(v9=false->((aB v4=true/\aj v4<=3000)/\((aP (Ld v4))=v8/\(decide (aj v4<=800))=v6))))))))/\((decide (x.ai=(8:Int)))=false->va))))))))))) ?_;obtain⟨hm,hg,hn,h0,h1⟩:=hp;refine λ _=>⟨λ _ _=>⟨λ _=>⟨?_,?_⟩,λ _=>⟨?_,?_⟩⟩,λ _=>⟨λ _ _=>⟨?_,?_,λ _=>⟨?_,?_,λ _=>⟨λ _=>⟨?_,?_⟩,λ _=>⟨?_,?_,?_⟩⟩,λ _=>⟨λ _=>⟨?_,?_⟩,λ _=>⟨?_,?_,?_⟩⟩⟩⟩,λ _=>⟨λ _ _=>⟨?_,?_,λ _=>⟨?_,?_⟩,λ _=>⟨?_,λ _ _=>⟨?_,?_,λ _=>⟨?_,?_,?_⟩,λ _ _=>⟨?_,?_,λ _=>⟨?_,?_⟩,λ _=>⟨?_,?_,?_⟩⟩⟩⟩⟩,λ _=>⟨λ _ _=>⟨?_,?_,λ _=>⟨?_,?_⟩,λ _=>⟨?_,?_,?_⟩⟩,λ _=>⟨?_,?_⟩⟩⟩⟩⟩;all_goals try and_intros
 all_goals try (first|with_reducible rfl|with_reducible assumption)
 all_goals try simp only[J.eta,cu] at *
 all_goals (try simp only[a8s,a8x,a7V,a8e,a7D,a7C,aE,J.eta] at *);first|rfl|trivial|omega|with_reducible assumption|exact oT.e1 (VH atom act x hg hn (by omega) (by with_reducible assumption) (by with_reducible assumption))|exact oT.e2 (VH atom act x hg hn (by omega) (by with_reducible assumption) (by with_reducible assumption))|exact oT.g (VH atom act x hg hn (by omega) (by with_reducible assumption) (by with_reducible assumption))|exact oT.n (VH atom act x hg hn (by omega) (by with_reducible assumption) (by with_reducible assumption))|exact oT.e1 (Qz atom act x hg hn (by omega) (by with_reducible assumption) (by with_reducible assumption) (by with_reducible assumption))|exact oT.e2 (Qz atom act x hg hn (by omega) (by with_reducible assumption) (by with_reducible assumption) (by with_reducible assumption))|exact oT.g (Qz atom act x hg hn (by omega) (by with_reducible assumption) (by with_reducible assumption) (by with_reducible assumption))|exact oT.n (Qz atom act x hg hn (by omega) (by with_reducible assumption) (by with_reducible assumption) (by with_reducible assumption))|exact oT.e1 (Qy atom act x hg hn (by omega) (by with_reducible assumption) (by with_reducible assumption))|exact oT.e2 (Qy atom act x hg hn (by omega) (by with_reducible assumption) (by with_reducible assumption))|exact oT.g (Qy atom act x hg hn (by omega) (by with_reducible assumption) (by with_reducible assumption))|exact oT.n (Qy atom act x hg hn (by omega) (by with_reducible assumption) (by with_reducible assumption))|exact oT.e1 (VI atom act x hg hn (by omega) (by with_reducible assumption))|exact oT.e2 (VI atom act x hg hn (by omega) (by with_reducible assumption))|exact oT.g (VI atom act x hg hn (by omega) (by with_reducible assumption))|exact oT.n (VI atom act x hg hn (by omega) (by with_reducible assumption))|exact (Au.of (FA atom act x (by omega) (by omega))).e1|exact (Au.of (FA atom act x (by omega) (by omega))).e2|exact congrArg J.ai (Au.of (FA atom act x (by omega) (by omega))).e1|exact congrArg J.aZ (Au.of (FA atom act x (by omega) (by omega))).e1|exact congrArg J.O (Au.of (FA atom act x (by omega) (by omega))).e1|exact (Au.of (Fz atom act x (by omega) (by omega))).e1|exact (Au.of (Fz atom act x (by omega) (by omega))).e2|exact congrArg J.ai (Au.of (Fz atom act x (by omega) (by omega))).e1|exact congrArg J.aZ (Au.of (Fz atom act x (by omega) (by omega))).e1|exact congrArg J.O (Au.of (Fz atom act x (by omega) (by omega))).e1|exact (Au.of (N9 atom act x (by omega) (by omega) (by omega) (by omega))).e1|exact (Au.of (N9 atom act x (by omega) (by omega) (by omega) (by omega))).e2|exact congrArg J.ai (Au.of (N9 atom act x (by omega) (by omega) (by omega) (by omega))).e1|exact congrArg J.aZ (Au.of (N9 atom act x (by omega) (by omega) (by omega) (by omega))).e1|exact congrArg J.O (Au.of (N9 atom act x (by omega) (by omega) (by omega) (by omega))).e1|(have g:=cG x hg (by omega);first|(have:=g.len;omega)|exact g.g0|exact g.g1|(have:=g.l0;omega)|(have:=g.l1;omega)|(have:=g.nd;omega)|exact (nO.of (nA atom act x (by omega) g (.inl (by with_reducible assumption)))).e1|exact (nO.of (nA atom act x (by omega) g (.inl (by with_reducible assumption)))).e2|exact congrArg J.ai (nO.of (nA atom act x (by omega) g (.inl (by with_reducible assumption)))).e1|exact congrArg J.aZ (nO.of (nA atom act x (by omega) g (.inl (by with_reducible assumption)))).e1|exact congrArg J.O (nO.of (nA atom act x (by omega) g (.inl (by with_reducible assumption)))).e1|exact (nO.of (nA atom act x (by omega) g (.inr (by with_reducible assumption)))).e1|exact (nO.of (nA atom act x (by omega) g (.inr (by with_reducible assumption)))).e2|exact congrArg J.ai (nO.of (nA atom act x (by omega) g (.inr (by with_reducible assumption)))).e1|exact congrArg J.aZ (nO.of (nA atom act x (by omega) g (.inr (by with_reducible assumption)))).e1|exact congrArg J.O (nO.of (nA atom act x (by omega) g (.inr (by with_reducible assumption)))).e1|exact (nO.of (FB atom act x (by omega) g (by with_reducible assumption))).e1|exact (nO.of (FB atom act x (by omega) g (by with_reducible assumption))).e2|exact congrArg J.ai (nO.of (FB atom act x (by omega) g (by with_reducible assumption))).e1|exact congrArg J.aZ (nO.of (FB atom act x (by omega) g (by with_reducible assumption))).e1|exact congrArg J.O (nO.of (FB atom act x (by omega) g (by with_reducible assumption))).e1|exact (nO.of (FC atom act x (by omega) g (by with_reducible assumption) (by with_reducible assumption) (by with_reducible assumption))).e1|exact (nO.of (FC atom act x (by omega) g (by with_reducible assumption) (by with_reducible assumption) (by with_reducible assumption))).e2|exact congrArg J.ai (nO.of (FC atom act x (by omega) g (by with_reducible assumption) (by with_reducible assumption) (by with_reducible assumption))).e1|exact congrArg J.aZ (nO.of (FC atom act x (by omega) g (by with_reducible assumption) (by with_reducible assumption) (by with_reducible assumption))).e1|exact congrArg J.O (nO.of (FC atom act x (by omega) g (by with_reducible assumption) (by with_reducible assumption) (by with_reducible assumption))).e1)|(have g:=jG x hg (by omega);first|(have:=g.len;omega)|exact g.g0|(have:=g.l0;omega)|(have:=g.nd;omega)|exact (nO.of (FD atom act x (by omega) g (by with_reducible assumption))).e1|exact (nO.of (FD atom act x (by omega) g (by with_reducible assumption))).e2|exact congrArg J.ai (nO.of (FD atom act x (by omega) g (by with_reducible assumption))).e1|exact congrArg J.aZ (nO.of (FD atom act x (by omega) g (by with_reducible assumption))).e1|exact congrArg J.O (nO.of (FD atom act x (by omega) g (by with_reducible assumption))).e1)
def Pg :∀ n,bj [km n]
 | 0=>⟨⟨aD jU,λ _ _ _ h=>absurd h.1 (a8a _)⟩,af⟩
 | n+1=>by
  have ih:=Pg  n;exact⟨Ja n ⟨ih.1,ga,eU,sJ,EB,af⟩,af⟩
def EA :aW.Good zp :=
 ⟨aD jU,λ x atom act hp=>(Pg  (bu x+1)).1.2 x atom act (⟨a7M _,hp⟩)⟩
noncomputable def wU(xs:List J)(d:J):Nat:=xs.findIdx λ y=>dT y d
noncomputable def gm(xs:List J)(d:J):Int:=if wU xs d<xs.length then (wU xs d:Int) else -1
def a0V(xs:List J)(d:J):wU xs d<=xs.length:=b1q
def a5n(xs:List J)(d:J)(k:Nat)(hk:k<xs.length)(hle:k<=wU xs d)(h:dT (xs.getD k zE) d=true):(k:Int)=gm xs d:=by
 have e:wU xs d=k:=by
  apply Nat.le_antisymm _ hle;rcases a8m k (wU xs d) with q|q
  .have:=List.not_of_lt_findIdx q;rw[a7G,a7L hk] at h;simp only[a9M] at h;rw[h] at this;cases this
  .exact q
 rw[gm,a7E (by omega),e]
def a5m(xs:List J)(d:J)(k:Nat)(hk:k<xs.length)(hle:k<=wU xs d)(h:dT (xs.getD k zE) d=false):k+1<=wU xs d:=by
 rcases a8m k (wU xs d) with q|q
 .exact q
 .have e:wU xs d=k:=by omega
  have bp:wU xs d<xs.length:=by omega
  have:=b0C (w:=bp);rw[a7G,a7L hk] at h;simp only[a9M] at h;have e2:xs[wU xs d]=xs[k]:=by simp[e]
  have h3:dT xs[wU xs d] d=true:=this;rw[e2,h] at h3;cases h3
def a0W(xs:List J)(d:J)(h:xs.length<=wU xs d) : -1=gm xs d:=by rw[gm,a7z (by omega)]
def a0U(xs:List J)(d:J) : -1<=gm xs d/\gm xs d<xs.length:=by
 unfold gm;split<;>omega
structure kX where
 ls:List J
 rw:List Int
noncomputable def rA(b:Bool)(a c:Int)(x:J)(s:kX):Option kX :=
 if (bQ a c x).2=true then
  (if (cr a c x).ai=1 then some ⟨s.ls,s.rw++[-1]⟩ else if 0<=gm s.ls (cr a c x) then some ⟨s.ls,s.rw++[gm s.ls (cr a c x)]⟩
   else if b=true/\s.ls.length=60 then none else some ⟨s.ls++[cr a c x],s.rw++[(s.ls.length:Int)]⟩)
 else none
noncomputable def tK(b:Bool)(a:Int)(x:J):Nat->Int->kX->Option kX
 | 0,_,s=>some s
 | n+1,c,s=>(rA b a c x s).bind λ s'=>tK b a x n (c+1) s'
noncomputable def lj(b:Bool)(n:Nat)(x:J):Nat->Int->List J->List (List Int)->Option (List J×List (List Int))
 | 0,_,ls,rows=>some (ls,rows)
 | m+1,a,ls,rows=>(tK b a x n 0 ⟨ls,[]⟩).bind λ s=>lj b n x m (a+1) s.ls (rows++[s.rw])
noncomputable def HE(b:Bool)(m n:Nat):Nat->Nat->List J->List (List (List Int))->Option (List J×List (List (List Int)))
 | 0,_,_,_=>none
 | f+1,i,ls,nx=>if i<ls.length then ((lj b n (ls.getD i zE) m 0 ls []).bind λ q=>if q.1.length<=60 then HE b m n f (i+1) q.1 (nx++[q.2]) else none) else some (ls,nx)
noncomputable def kV(b:Bool)(gg:aG)(e:J):Option (List J×List (List (List Int))):=HE b (bA gg).toNat gg.av.toNat 61 0 [ej e] []
def a0t{b:Bool}{a c:Int}{x:J}{s s':kX}(h:rA b a c x s=some s'):s.ls.length<=s'.ls.length:=by
 unfold rA at h;split at h
 .split at h
  .cases h;exact a7P _
  .split at h
   .cases h;exact a7P _
   .split at h
    .cases h
    .cases h;simp
 .cases h
def Jq{b:Bool}{a:Int}{x:J}:∀ (n:Nat) {c:Int} {s s':kX},tK b a x n c s=some s'->s.ls.length<=s'.ls.length
 | 0,_,_,_,h=>by cases h;exact a7P _
 | n+1,c,s,s',h=>by
  unfold tK at h;cases hs:rA b a c x s with
  | none=>rw[hs] at h;cases h
  | some t=>rw[hs] at h;exact a8M (a0t hs) (Jq n h)
def NY{b:Bool}{n:Nat}{x:J}:∀ (m:Nat) {a:Int} {ls:List J} {rows:List (List Int)} {q:List J×List (List Int)},lj b n x m a ls rows=some q->ls.length<=q.1.length
 | 0,_,_,_,_,h=>by cases h;exact a7P _
 | m+1,a,ls,rows,q,h=>by
  unfold lj at h;cases hs:tK b a x n 0 ⟨ls,[]⟩ with
  | none=>rw[hs] at h;cases h
  | some t=>rw[hs] at h;exact a8M (Jq n hs) (NY m h)
def lu(k:Nat){α:Type}(o:α):Option α:=if k<=60 then some o else none
def LI(a:Int)(x:J):∀ (n:Nat) (c:Int) (s:kX),s.ls.length<=60->tK true a x n c s=(tK false a x n c s).bind λ s'=>lu s'.ls.length s'
 | 0,c,s,h=>by simp[tK,lu,h]
 | n+1,c,s,h=>by
  unfold tK;by_cases h1:(bQ a c x).2=true
  .by_cases h2:(cr a c x).ai=1
   .have e:∀ b,rA b a c x s=some ⟨s.ls,s.rw++[-1]⟩:=λ b=>by rw[rA,a7E h1,a7E h2]
    rw[e,e];exact LI a x n (c+1) _ h
   .by_cases h3:0<=gm s.ls (cr a c x)
    .have e:∀ b,rA b a c x s=some ⟨s.ls,s.rw++[gm s.ls (cr a c x)]⟩:=λ b=>by rw[rA,a7E h1,a7z h2,a7E h3]
     rw[e,e];exact LI a x n (c+1) _ h
    .have ef:rA false a c x s=some ⟨s.ls++[cr a c x],s.rw++[(s.ls.length:Int)]⟩:=by rw[rA,a7E h1,a7z h2,a7z h3,a7z (by simp)]
     rw[ef];by_cases h4:s.ls.length=60
     .have et:rA true a c x s=none:=by rw[rA,a7E h1,a7z h2,a7z h3,a7E ⟨rfl,h4⟩]
      rw[et];simp only[b1h,a9r];cases hq:tK false a x n (c+1) ⟨s.ls++[cr a c x],s.rw++[(s.ls.length:Int)]⟩ with
      | none=>rfl
      | some q =>
       have:=Jq n hq;simp only[a7K,a7I,a7T] at this;simp only[a9r,lu];rw[a7z (by omega)]
     .have et:rA true a c x s=some ⟨s.ls++[cr a c x],s.rw++[(s.ls.length:Int)]⟩:=by rw[rA,a7E h1,a7z h2,a7z h3,a7z (by simp[h4])]
      rw[et];exact LI a x n (c+1) _ (by simp;omega)
  .have e:∀ b,rA b a c x s=none:=λ b=>by rw[rA,a7z h1]
   rw[e,e];rfl
def Te(n:Nat)(x:J):∀ (m:Nat) (a:Int) (ls:List J) (rows:List (List Int)),ls.length<=60->lj true n x m a ls rows=(lj false n x m a ls rows).bind λ q=>lu q.1.length q
 | 0,a,ls,rows,h=>by simp[lj,lu,h]
 | m+1,a,ls,rows,h=>by
  unfold lj;rw[LI a x n 0 ⟨ls,[]⟩ h];cases hq:tK false a x n 0 ⟨ls,[]⟩ with
  | none=>rfl
  | some s =>
   simp only[a9r];by_cases hs:s.ls.length<=60
   .rw[lu,a7E hs];exact Te n x m (a+1) s.ls _ hs
   .rw[lu,a7z hs];simp only[b1h];cases hr:lj false n x m (a+1) s.ls (rows++[s.rw]) with
    | none=>rfl
    | some q =>
     have:=NY m hr;simp only[a9r,lu];rw[a7z (by omega)]
def Wl(m n:Nat):∀ (f i:Nat) (ls:List J) (nx:List (List (List Int))),ls.length<=60->HE true m n f i ls nx=HE false m n f i ls nx
 | 0,_,_,_,_=>rfl
 | f+1,i,ls,nx,h=>by
  unfold HE;by_cases hi:i<ls.length
  .rw[a7E hi,a7E hi,Te n _ m 0 ls [] h];cases hr:lj false n (ls.getD i zE) m 0 ls [] with
   | none=>rfl
   | some q =>
    simp only[a9r,lu];by_cases hq:q.1.length<=60
    .rw[a7E hq];simp only[a9r];rw[a7E hq,a7E hq];exact Wl m n f (i+1) q.1 _ hq
    .rw[a7z hq];simp only[b1h];rw[a7z hq]
  .rw[a7z hi,a7z hi]
def a0u(gg:aG)(e:J):kV true gg e=kV false gg e:=Wl _ _ _ _ _ _ (by simp)
noncomputable def dk(gg:aG)(e:J):List J:=((kV false gg e).getD ([],[])).1
noncomputable def fB(gg:aG)(e:J):List (List (List Int)):=((kV false gg e).getD ([],[])).2
noncomputable def dC(gg:aG)(e:J):Int:=if (kV false gg e).isSome=true then 0 else 3
def od(ls:List J):Prop:=∀ y∈ls,aB y=true/\aj y<=1000
def od.get{ls:List J}(h:od ls){i:Nat}(hi:i<ls.length):aB (ls.getD i zE)=true/\aj (ls.getD i zE)<=1000:=h _ (by
 rw[a7G,a7L hi];exact a9l _)
def od.snoc{ls:List J}(h:od ls){d:J}(hd:aB d=true/\aj d<=1000):od (ls++[d]):=λ y hy=>by
 rcases a7y.1 hy with q|q
 .exact h y q
 .rw[a7O] at q;rw[q];exact hd
def O5(L:Nat)(r:List Int):Prop:=∀ v∈r,-1<=v/\v<(L:Int)
def DV(n L:Nat)(rows:List (List Int)):Prop:=∀ r∈rows,r.length=n/\O5 L r
def Lf(m n L:Nat)(nx:List (List (List Int))):Prop:=∀ rows∈nx,rows.length=m/\DV n L rows
def O5.up{L L':Nat}{r:List Int}(h:O5 L r)(hl:L<=L'):O5 L' r:=λ v hv=>⟨(h v hv).1,by have:=(h v hv).2;omega⟩
def DV.up{n L L':Nat}{r:List (List Int)}(h:DV n L r)(hl:L<=L'):DV n L' r:=λ v hv=>⟨(h v hv).1,(h v hv).2.up hl⟩
def Lf.up{m n L L':Nat}{r:List (List (List Int))}(h:Lf m n L r)(hl:L<=L'):Lf m n L' r:=λ v hv=>⟨(h v hv).1,(h v hv).2.up hl⟩
def O5.snoc{L:Nat}{r:List Int}(h:O5 L r){v:Int}(hv : -1<=v/\v<(L:Int)):O5 L (r++[v]):=λ u hu=>by
 rcases a7y.1 hu with q|q
 .exact h u q
 .rw[a7O] at q;rw[q];exact hv
def DV.snoc{n L:Nat}{r:List (List Int)}(h:DV n L r){v:List Int}(h1:v.length=n)(hv:O5 L v):DV n L (r++[v]):=λ u hu=>by
 rcases a7y.1 hu with q|q
 .exact h u q
 .rw[a7O] at q;rw[q];exact⟨h1,hv⟩
def Lf.snoc{m n L:Nat}{r:List (List (List Int))}(h:Lf m n L r){v:List (List Int)}(h1:v.length=m)(hv:DV n L v):Lf m n L (r++[v]):=λ u hu=>by
 rcases a7y.1 hu with q|q
 .exact h u q
 .rw[a7O] at q;rw[q];exact⟨h1,hv⟩
structure BO(b:Bool)(gg:aG)(e:J)(i:Nat)(ls:List J)(nx:List (List (List Int))):Prop where
 eq:HE b (bA gg).toNat gg.av.toNat (61 - i) i ls nx=kV b gg e
 le:i<=ls.length
 lu:ls.length<=60
 ua:nx.length=i
 qS:od ls
 pos:0<ls.length
 ok:Lf (bA gg).toNat gg.av.toNat ls.length nx
noncomputable def kO(b:Bool)(gg:aG)(i:Nat)(nx:List (List (List Int)))(q:List J×List (List Int)):Option (List J×List (List (List Int))) :=
 if q.1.length<=60 then HE b (bA gg).toNat gg.av.toNat (61 - (i+1)) (i+1) q.1 (nx++[q.2]) else none
structure BM(b:Bool)(gg:aG)(e:J)(i:Nat)(nx:List (List (List Int)))(x:J)(a:Nat)(ls:List J)(rows:List (List Int)):Prop where
 eq:(lj b gg.av.toNat x ((bA gg).toNat - a) (a:Int) ls rows).bind (kO b gg i nx)=kV b gg e
 ha:a<=(bA gg).toNat
 E3:rows.length=a
 hi:i<ls.length
 i6:i<60
 ua:nx.length=i
 hx:ls.getD i zE=x
 qS:od ls
 lu:ls.length<=60+4 * a
 b6:b=true->ls.length<=60
 ok:Lf (bA gg).toNat gg.av.toNat ls.length nx
 rk:DV gg.av.toNat ls.length rows
structure BI(b:Bool)(gg:aG)(e:J)(i:Nat)(nx:List (List (List Int)))(x:J)(a:Nat)(rows:List (List Int))(c:Nat)(s:kX):Prop where
 eq:((tK b (a:Int) x (gg.av.toNat - c) (c:Int) s).bind λ s'=>lj b gg.av.toNat x ((bA gg).toNat - (a+1)) ((a:Int)+1) s'.ls (rows++[s'.rw])).bind (kO b gg i nx)=kV b gg e
 ha:a<(bA gg).toNat
 hc:c<=gg.av.toNat
 rw:s.rw.length=c
 E3:rows.length=a
 hi:i<s.ls.length
 i6:i<60
 ua:nx.length=i
 hx:s.ls.getD i zE=x
 qS:od s.ls
 lu:s.ls.length<=60+4 * a+c
 b6:b=true->s.ls.length<=60
 ok:Lf (bA gg).toNat gg.av.toNat s.ls.length nx
 rk:DV gg.av.toNat s.ls.length rows
 wk:O5 s.ls.length s.rw
def BO.first(b:Bool)(gg:aG)(e:J)(hg:aB e=true)(hn:aj e<=1000):BO b gg e 0 [ej e] [] :=
 ⟨rfl,a8r _,by simp,rfl,λ y hy=>by
  rw[a7O] at hy;have:=B5 e hg;rw[hy];exact⟨this.g,by have:=this.n;omega⟩,by simp,λ _ h=>by cases h⟩
def BO.go{b:Bool}{gg:aG}{e:J}{i:Nat}{ls:List J}{nx:List (List (List Int))}(h:BO b gg e i ls nx)(hi:i<ls.length):BM b gg e i nx (ls.getD i zE) 0 ls []:=by
 have h6:=h.lu;refine⟨?_,a8r _,rfl,hi,by omega,h.ua,rfl,h.qS,by omega,λ _=>h6,h.ok,λ _ h=>by cases h⟩;rw[<-h.eq,show 61 - i=(61 - (i+1))+1 by omega,HE,a7E hi];rfl
def BO.done{b:Bool}{gg:aG}{e:J}{i:Nat}{ls:List J}{nx:List (List (List Int))}(h:BO b gg e i ls nx)(hi:ls.length<=i):kV b gg e=some (ls,nx):=by
 have h6:=h.lu;have:=h.le;rw[<-h.eq,show 61 - i=(61 - (i+1))+1 by omega,HE,a7z (by omega)]
def BM.go{b:Bool}{gg:aG}{e:J}{i:Nat}{nx:List (List (List Int))}{x:J}{a:Nat}{ls:List J}{rows:List (List Int)}(h:BM b gg e i nx x a ls rows)(ha:a<(bA gg).toNat):BI b gg e i nx x a rows 0 ⟨ls,[]⟩:=by
 refine⟨?_,ha,Nat.zero_le _,rfl,h.E3,h.hi,h.i6,h.ua,h.hx,h.qS,by have:=h.lu;simpa using this,h.b6,h.ok,h.rk,λ _ h=>by cases h⟩;rw[<-h.eq,show (bA gg).toNat - a=((bA gg).toNat - (a+1))+1 by omega,lj];rfl
def BM.done{b:Bool}{gg:aG}{e:J}{i:Nat}{nx:List (List (List Int))}{x:J}{a:Nat}{ls:List J}{rows:List (List Int)}(h:BM b gg e i nx x a ls rows)(ha:(bA gg).toNat<=a)(h6:ls.length<=60):BO b gg e (i+1) ls (nx++[rows]):=by
 have:=h.ha;have hi:=h.hi;refine⟨?_,hi,h6,by rw[a7K,h.ua];rfl,h.qS,by omega,h.ok.snoc (by rw[h.E3];omega) h.rk⟩;rw[<-h.eq,show (bA gg).toNat - a=0 by omega,lj,a9r,kO,a7E h6]
def BM.over{b:Bool}{gg:aG}{e:J}{i:Nat}{nx:List (List (List Int))}{x:J}{a:Nat}{ls:List J}{rows:List (List Int)}(h:BM b gg e i nx x a ls rows)(ha:(bA gg).toNat<=a)(h6:60<ls.length):kV b gg e=none:=by
 have:=h.ha;rw[<-h.eq,show (bA gg).toNat - a=0 by omega,lj,Option.bind_some,kO,if_neg (by simpa using h6)]
def BI.done{b:Bool}{gg:aG}{e:J}{i:Nat}{nx:List (List (List Int))}{x:J}{a:Nat}{rows:List (List Int)}{c:Nat}{s:kX}(h:BI b gg e i nx x a rows c s)(hs:gg.av.toNat<=4)(hc:gg.av.toNat<=c):BM b gg e i nx x (a+1) s.ls (rows++[s.rw]):=by
 have:=h.hc;refine⟨?_,h.ha,by rw[a7K,h.E3];rfl,h.hi,h.i6,h.ua,h.hx,h.qS,by have:=h.lu;omega,h.b6,h.ok,h.rk.snoc (by rw[h.rw];omega) h.wk⟩;rw[<-h.eq,show gg.av.toNat - c=0 by omega,tK,a9r];rfl
def BI.step{b:Bool}{gg:aG}{e:J}{i:Nat}{nx:List (List (List Int))}{x:J}{a:Nat}{rows:List (List Int)}{c:Nat}{s:kX}(h:BI b gg e i nx x a rows c s)(hc:c<gg.av.toNat) :
  ((rA b (a:Int) (c:Int) x s).bind λ s=>(tK b (a:Int) x (gg.av.toNat - (c+1)) ((c:Int)+1) s).bind λ s'=>lj b gg.av.toNat x ((bA gg).toNat - (a+1)) ((a:Int)+1) s'.ls (rows++[s'.rw])).bind (kO b gg i nx)=kV b gg e:=by
 rw[<-h.eq,show gg.av.toNat - c=(gg.av.toNat - (c+1))+1 by omega,tK];simp only[Option.bind_assoc]
def BI.fail{b:Bool}{gg:aG}{e:J}{i:Nat}{nx:List (List (List Int))}{x:J}{a:Nat}{rows:List (List Int)}{c:Nat}{s:kX}(h:BI b gg e i nx x a rows c s)(hc:c<gg.av.toNat)(hf:rA b (a:Int) (c:Int) x s=none):kV b gg e=none:=by
 rw[<-h.step hc,hf];rfl
def BI.next{b:Bool}{gg:aG}{e:J}{i:Nat}{nx:List (List (List Int))}{x:J}{a:Nat}{rows:List (List Int)}{c:Nat}{s:kX}(h:BI b gg e i nx x a rows c s)(hc:c<gg.av.toNat){s':kX}(hf:rA b (a:Int) (c:Int) x s=some s')
  (hl:s'.ls=s.ls\/∃ d,aB d=true/\aj d<=1000/\s'.ls=s.ls++[d]/\(b=true->s.ls.length<60)) (hr:s'.rw.length=c+1) (hw:O5 s'.ls.length s'.rw):BI b gg e i nx x a rows (c+1) s':=by
 have hi:=h.hi;have hx:=h.hx;have h6:=h.lu;have hb6:=h.b6;have hup:s.ls.length<=s'.ls.length:=by
  rcases hl with e|⟨d,_,_,e,_⟩<;>rw[e]<;>simp
 refine⟨?_,h.ha,hc,hr,h.E3,?_,h.i6,h.ua,?_,?_,?_,?_,h.ok.up hup,h.rk.up hup,hw⟩
 .rw[<-h.step hc,hf];rfl
 .rcases hl with e|⟨d,_,_,e,_⟩
  .rw[e];exact hi
  .rw[e];simp;omega
 .rcases hl with e|⟨d,_,_,e,_⟩
  .rw[e];exact hx
  .rw[e,a7G,a8H hi,<-a7G];exact hx
 .rcases hl with e|⟨d,d1,d2,e,_⟩
  .rw[e];exact h.qS
  .rw[e];exact h.qS.snoc ⟨d1,d2⟩
 .rcases hl with e|⟨d,_,_,e,_⟩
  .rw[e];omega
  .rw[e];simp;omega
 .intro hb;rcases hl with e|⟨d,_,_,e,q⟩
  .rw[e];exact hb6 hb
  .rw[e];have:=q hb;simp;omega
def BI.w0{b:Bool}{gg:aG}{e:J}{i:Nat}{nx:List (List (List Int))}{x:J}{a:Nat}{rows:List (List Int)}{c:Nat}{s:kX}(h:BI b gg e i nx x a rows c s)(hc:c<gg.av.toNat)(h1:(bQ (a:Int) (c:Int) x).2=false):kV b gg e=none :=
 h.fail hc (by rw[rA,a7z (by rw[h1];decide)])
def BI.w1{b:Bool}{gg:aG}{e:J}{i:Nat}{nx:List (List (List Int))}{x:J}{a:Nat}{rows:List (List Int)}{c:Nat}{s:kX}(h:BI b gg e i nx x a rows c s)(hc:c<gg.av.toNat)(h1:(bQ (a:Int) (c:Int) x).2=true)(h2:(cr (a:Int) (c:Int) x).ai=1):BI b gg e i nx x a rows (c+1) ⟨s.ls,s.rw++[-1]⟩ :=
 h.next hc (by rw[rA,a7E h1,a7E h2]) (.inl rfl) (by rw[a7K,h.rw];rfl) (h.wk.snoc ⟨by omega,by show (-1:Int)<(s.ls.length:Int);omega⟩)
def BI.w2{b:Bool}{gg:aG}{e:J}{i:Nat}{nx:List (List (List Int))}{x:J}{a:Nat}{rows:List (List Int)}{c:Nat}{s:kX}(h:BI b gg e i nx x a rows c s)(hc:c<gg.av.toNat)(h1:(bQ (a:Int) (c:Int) x).2=true)(h2:¬ (cr (a:Int) (c:Int) x).ai=1)(h3:0<=gm s.ls (cr (a:Int) (c:Int) x)):BI b gg e i nx x a rows (c+1) ⟨s.ls,s.rw++[gm s.ls (cr (a:Int) (c:Int) x)]⟩ :=
 h.next hc (by rw[rA,a7E h1,a7z h2,a7E h3]) (.inl rfl) (by rw[a7K,h.rw];rfl) (h.wk.snoc (a0U _ _))
def BI.w3{b:Bool}{gg:aG}{e:J}{i:Nat}{nx:List (List (List Int))}{x:J}{a:Nat}{rows:List (List Int)}{c:Nat}{s:kX}(h:BI b gg e i nx x a rows c s)(hc:c<gg.av.toNat)(h1:(bQ (a:Int) (c:Int) x).2=true)(h2:¬ (cr (a:Int) (c:Int) x).ai=1)(h3:gm s.ls (cr (a:Int) (c:Int) x)<0)(h4:b=true->¬ s.ls.length=60):BI b gg e i nx x a rows (c+1) ⟨s.ls++[cr (a:Int) (c:Int) x],s.rw++[(s.ls.length:Int)]⟩:=by
 have hg:=h.qS.get h.hi;rw[h.hx] at hg;have q:=diT (a:Int) (c:Int) x hg.1;have hb6:=h.b6;refine h.next hc (by rw[rA,a7E h1,a7z h2,a7z (by omega),a7z λ q=>h4 q.1 q.2]) (.inr ⟨_,q.g h1,by have:=q.n h1;omega,rfl,λ hb=>by have:=h4 hb;have:=hb6 hb;omega⟩) (by rw[a7K,h.rw];rfl) ((h.wk.up (by simp)).snoc ⟨by omega,by simp;omega⟩)
def BI.w4{gg:aG}{e:J}{i:Nat}{nx:List (List (List Int))}{x:J}{a:Nat}{rows:List (List Int)}{c:Nat}{s:kX}(h:BI true gg e i nx x a rows c s)(hc:c<gg.av.toNat)(h1:(bQ (a:Int) (c:Int) x).2=true)(h2:¬ (cr (a:Int) (c:Int) x).ai=1)(h3:gm s.ls (cr (a:Int) (c:Int) x)<0)(h4:s.ls.length=60):kV true gg e=none :=
 h.fail hc (by rw[rA,a7E h1,a7z h2,a7z (by omega),a7E ⟨rfl,h4⟩])
def fe{gg:aG}{e:J}{b:Bool}(h:kV b gg e=none):dk gg e=[]/\fB gg e=[]/\dC gg e=3:=by
 have h':kV false gg e=none:=by cases b with
  | false=>exact h
  | true=>rw[<-a0u];exact h
 unfold dk fB dC;rw[h'];exact⟨rfl,rfl,rfl⟩
def tO{gg:aG}{e:J}{b:Bool}{ls:List J}{nx:List (List (List Int))}(h:kV b gg e=some (ls,nx)):dk gg e=ls/\fB gg e=nx/\dC gg e=0:=by
 have h':kV false gg e=some (ls,nx):=by cases b with
  | false=>exact h
  | true=>rw[<-a0u];exact h
 unfold dk fB dC;rw[h'];exact⟨rfl,rfl,rfl⟩
structure CI where
 i:Nat
 ls:List J
 nx:List (List (List Int))
structure CH where
 a:Nat
 ls:List J
 rows:List (List Int)
structure CG where
 c:Nat
 s:kX
noncomputable def zV(ls:List J)(d:J):Int:=if d.ai=1 then -1 else if 0<=gm ls d then gm ls d else (ls.length:Int)
noncomputable def nE(ls:List J)(d:J):List J:=if d.ai=1 then ls else if 0<=gm ls d then ls else ls++[d]
def JJ{ls:List J}{d:J}(h:d.ai=1) : -1=zV ls d/\ls=nE ls d:=by rw[zV,nE,a7E h,a7E h];exact⟨rfl,rfl⟩
def JK{ls:List J}{d:J}(h:¬ d.ai=1)(h2:¬ gm ls d<0):gm ls d=zV ls d/\ls=nE ls d:=by
 rw[zV,nE,a7z h,a7z h,a7E (by omega),a7E (by omega)];exact⟨rfl,rfl⟩
def JL{ls:List J}{d:J}(h:¬ d.ai=1)(h2:gm ls d<0):(ls.length:Int)=zV ls d/\ls++[d]=nE ls d:=by
 rw[zV,nE,a7z h,a7z h,a7z (by omega),a7z (by omega)];exact⟨rfl,rfl⟩
def BI.ZM{b:Bool}{gg:aG}{e:J}{i:Nat}{nx:List (List (List Int))}{x:J}{a:Nat}{rows:List (List Int)}{c:Nat}{s:kX}(h:BI b gg e i nx x a rows c s)(hc:c<gg.av.toNat)(h1:(bQ (a:Int) (c:Int) x).2=true)
  (h4:b=true->¬ (cr (a:Int) (c:Int) x).ai=1->gm s.ls (cr (a:Int) (c:Int) x)<0->¬ s.ls.length=60):BI b gg e i nx x a rows (c+1) ⟨nE s.ls (cr (a:Int) (c:Int) x),s.rw++[zV s.ls (cr (a:Int) (c:Int) x)]⟩:=by
 by_cases h2:(cr (a:Int) (c:Int) x).ai=1
 .have e:=JJ (ls:=s.ls) h2;rw[<-e.1,<-e.2];exact h.w1 hc h1 h2
 .by_cases h3:gm s.ls (cr (a:Int) (c:Int) x)<0
  .have e:=JL h2 h3;rw[<-e.1,<-e.2];exact h.w3 hc h1 h2 h3 λ hb=>h4 hb h2 h3
  .have e:=JK h2 h3;rw[<-e.1,<-e.2];exact h.w2 hc h1 h2 (by omega)
def BI.a3R{gg:aG}{e:J}{i:Nat}{nx:List (List (List Int))}{x:J}{a:Nat}{rows:List (List Int)}{c:Nat}{s:kX}(h:BI false gg e i nx x a rows c s)(hc:c<gg.av.toNat)(h1:(bQ (a:Int) (c:Int) (s.ls.getD i zE)).2=true) :
  BI false gg e i nx x a rows (c+1) ⟨nE s.ls (bQ (a:Int) (c:Int) (s.ls.getD i zE)).1,s.rw++[zV s.ls (bQ (a:Int) (c:Int) (s.ls.getD i zE)).1]⟩:=by
 rw[h.hx] at h1 ⊢;have:=h.ZM hc h1 nofun;rw[AS h1] at this;exact this
def BI.Ir{b:Bool}{gg:aG}{e:J}{i:Nat}{nx:List (List (List Int))}{x:J}{a:Nat}{rows:List (List Int)}{c:Nat}{s:kX}(h:BI b gg e i nx x a rows c s)(hc:c<gg.av.toNat)(h1:(bQ (a:Int) (c:Int) (s.ls.getD i zE)).2=false):kV b gg e=none:=by
 rw[h.hx] at h1;exact h.w0 hc h1
def BI.get{b:Bool}{gg:aG}{e:J}{i:Nat}{nx:List (List (List Int))}{x:J}{a:Nat}{rows:List (List Int)}{c:Nat}{s:kX}(h:BI b gg e i nx x a rows c s):aB (s.ls.getD i zE)=true/\aj (s.ls.getD i zE)<=1000:=h.qS.get h.hi
structure BIl(gg:aG)(i a c:Nat)(nx:List (List (List Int)))(rows:List (List Int))(s:kX):Prop where
 l1:i<s.ls.length
 l2:s.ls.length<=100
 l3:a<8
 l4:c<=4
 l5:s.rw.length<=4
 l6:rows.length<=8
 l7:nx.length<=60
 l8:i<60
def BI.lens{b:Bool}{gg:aG}{e:J}{i:Nat}{nx:List (List (List Int))}{x:J}{a:Nat}{rows:List (List Int)}{c:Nat}{s:kX}(h:BI b gg e i nx x a rows c s)(hg:ca gg=true):BIl gg i a c nx rows s:=by
 rw[dW] at hg;have:=iC gg hg.1;have:=h.lu;have:=h.ha;have:=h.hc;have:=h.rw;have:=h.E3;have:=h.ua;have:=h.hi;have:=h.i6;constructor<;>omega
structure BMl(i a:Nat)(nx:List (List (List Int)))(ls:List J)(rows:List (List Int)):Prop where
 l1:i<ls.length
 l2:ls.length<=100
 l3:a<=8
 l6:rows.length<=8
 l7:nx.length<=60
 l8:i<60
def BM.lens{b:Bool}{gg:aG}{e:J}{i:Nat}{nx:List (List (List Int))}{x:J}{a:Nat}{ls:List J}{rows:List (List Int)}(h:BM b gg e i nx x a ls rows)(hg:ca gg=true):BMl i a nx ls rows:=by
 rw[dW] at hg;have:=iC gg hg.1;have:=h.lu;have:=h.ha;have:=h.E3;have:=h.ua;have:=h.hi;have:=h.i6;constructor<;>omega
structure BOl(i:Nat)(ls:List J)(nx:List (List (List Int))):Prop where
 l1:i<=ls.length
 l2:ls.length<=60
 l3:nx.length<=60
def BO.lens{b:Bool}{gg:aG}{e:J}{i:Nat}{ls:List J}{nx:List (List (List Int))}(h:BO b gg e i ls nx):BOl i ls nx:=by
 have:=h.le;have:=h.lu;have:=h.ua;constructor<;>omega
def zz:aW:=⟨zM,[.v (.slice (.st .expr)), .r (.st .expr)],λ (xs:List J) (d:J)=>⟨(some (xs.length<=1000),[⟨(.int .i64),gm xs d⟩])⟩⟩
def K3(xs:List J)(d:J):Nat->aL:=(eS 0 (.b (Nat) (λ k=>k<=xs.length/\k<=wU xs d) (λ k=>xs.length - k) [] (λ k=>[(5, .aQ ⟨(.int .i64),((k:Int):Int)⟩)])) cB)
def EO:aW.Good zz:=by
 refine⟨aD wI,?_⟩;intro (xs:List J) (d:J) (hp:xs.length<=1000);refine aV [zx] [] [] [] ⟨sK,af⟩ wI Em (K3 xs d) (let v0:=(xs.length:Int);(((∃ k1:Nat,((k1<=xs.length/\k1<=wU xs d)/\((xs=xs/\(d=d/\((0:Int)=(k1:Int)/\True)))/\True)))/\(∀ k1:Nat,let v1:=(k1:Int);((k1<=xs.length/\k1<=wU xs d)->(au v0->(((decide (v1<v0))=true->(aE v1 xs.length/\(((dT (xs.getD k1 zE) d)=true->v1=(gm xs d))/\((dT (xs.getD k1 zE) d)=false->(au (v1+(1:Int))/\(∃ k2:Nat,((k2<=xs.length/\k2<=wU xs d)/\(xs.length - k2<xs.length - k1/\((xs=xs/\(d=d/\((v1+(1:Int))=(k2:Int)/\True)))/\True)))))))))/\((decide (v1<v0))=false->(-1:Int)=(gm xs d))))))))) ?_;refine⟨⟨0,?_,⟨rfl,rfl,?_,af⟩,af⟩,λ k1 _ _=>⟨λ _=>⟨?_,λ _=>?_,λ _=>⟨?_,k1+1,?_,?_,⟨rfl,rfl,?_,af⟩,af⟩⟩,λ _=>?_⟩⟩;all_goals try and_intros
 all_goals (try simp only[a7D,a7C,aE,au] at *);first|omega|with_reducible rfl|with_reducible assumption|exact trivial|exact a5n xs d _ (by omega) (by omega) (by with_reducible assumption)|exact a5m xs d _ (by omega) (by omega) (by with_reducible assumption)|exact a0W xs d (by omega)|exact a0V xs d
def vu:aW:=⟨vA,[.v (.st .sig), .r (.st .expr)],λ (gg:aG) (e:J)=>⟨(some (ca gg=true/\aB e=true/\aj e<=1000),[⟨(.slice (.st .expr)),dk gg e⟩,⟨(.slice (.slice (.slice (.int .i64)))),fB gg e⟩,⟨(.int .i64),dC gg e⟩])⟩⟩
def Hd(gg:aG)(e:J):Nat->aL:=(eS 0 (.mk (CI) (λ v=>BO false gg e v.i v.ls v.nx) (λ v=>60 - v.i) [] [0,1,18,19,20,21] (λ v=>[(9, .aQ ⟨(.int .i64),((v.i:Int):Int)⟩),(7, .row 20),(8, .row 21)]) [] (λ v=>[(20, .row eh (.st .expr) (v.ls:List J)),(21, .row FO (.slice (.slice (.int .i64))) (v.nx:List (List (List Int))))]) [] [] (λ v=>(eS 2 (.mk (CH) (λ m=>BM false gg e v.i v.nx (v.ls.getD v.i zE) m.a m.ls m.rows) (λ m=>(bA gg).toNat - m.a) [] [22,23,24,25,28] (λ m=>[(11, .aQ ⟨(.int .i64),((m.a:Int):Int)⟩),(10, .row 28),(7, .row 20)]) [21] (λ m=>[(20, .row eh (.st .expr) (m.ls:List J)),(28, .row LX (.slice (.int .i64)) (m.rows:List (List Int)))]) [] [] (λ m=>(eS 4 (.mk (CG) (λ q=>BI false gg e v.i v.nx (v.ls.getD v.i zE) m.a m.rows q.c q.s) (λ q=>gg.av.toNat - q.c) [] [29,30,31,32,35] (λ q=>[(13, .aQ ⟨(.int .i64),((q.c:Int):Int)⟩),(12, .row 35),(7, .row 20)]) [21,28] (λ q=>[(20, .row eh (.st .expr) (q.s.ls:List J)),(35, .row mL (.int .i64) (q.s.rw:List Int))]) [] [] (λ q=>(eS 100024 (.u (q.c<gg.av.toNat/\(bQ (m.a:Int) (q.c:Int) (q.s.ls.getD v.i zE)).2=true) [14,15,16,36,37,38,39,42,43,44,45,46,47,48,49,50,51,52,53] [(17, .aQ ⟨(.int .i64),(zV q.s.ls (bQ (m.a:Int) (q.c:Int) (q.s.ls.getD v.i zE)).1:Int)⟩),(7, .row 20)] [14,15,21,28,35] [(20, .row eh (.st .expr) (nE q.s.ls (bQ (m.a:Int) (q.c:Int) (q.s.ls.getD v.i zE)).1:List J))] cB) cB))) cB))) cB))) cB)
abbrev qW(v1:CI)(m2:CH)(q3:CG):Prop:=(let v0:=q3.s.ls.getD (Int.toNat (v1.i:Int)) zE;let v2:=(bQ (m2.a:Int) (q3.c:Int) (aP v0)).1;((v2.ai=v2.ai/\(v2.aZ=v2.aZ/\(v2.O=v2.O/\True)))/\((v0.ai=v0.ai/\(v0.aZ=v0.aZ/\(v0.O=v0.O/\True)))/\(q3.s.rw=q3.s.rw/\(m2.rows=m2.rows/\(v1.nx=v1.nx/\True))))))
def A6:aW.Good vu:=by
 refine⟨aD rV,?_⟩;intro (gg:aG) (e:J) (hp:ca gg=true/\aB e=true/\aj e<=1000);refine aV [iW,hJ,zB,zz] [] [] [2] ⟨mc,gN,ES,EO,af⟩ rV AJ (Hd gg e) (let v0:=[]=(dk gg e)/\([]=(fB gg e)/\(3:Int)=(dC gg e));let v2:=(1:Int);let v4:=bA gg;let v5:=(0:Int);(((aB e=true/\aj e<=3000)/\((∃ v1:CI,(BO false gg e v1.i v1.ls v1.nx/\((gg=gg/\(True/\(True/\(v5=(v1.i:Int)/\True))))/\(([(ej e)])=v1.ls/\([]=v1.nx/\True)))))/\(∀ v1:CI,let v6:=(v1.i:Int);let v7:=Int.toNat v6;let v8:=v1.ls.getD v1.i zE;let v9:=v1.nx=v1.nx/\True;let va:=(v1.ls.length:Int);(BO false gg e v1.i v1.ls v1.nx->(au va->(((decide (v6<va))=true->((∃ m2:CH,(BM false gg e v1.i v1.nx v8 m2.a m2.ls m2.rows/\((gg=gg/\(True/\(True/\(v6=v6/\(True/\(v5=(m2.a:Int)/\True))))))/\(v1.ls=m2.ls/\([]=m2.rows/\v9)))))/\(∀ m2:CH,let vb:=(m2.a:Int);let vc:=decide ((60:Int)<((m2.ls.length:Int)));(BM false gg e v1.i v1.nx v8 m2.a m2.ls m2.rows->((0<=gg.aS/\gg.aS<=3)/\(au v4->(((decide (vb<v4))=true->((∃ q3:CG,(BI false gg e v1.i v1.nx v8 m2.a m2.rows q3.c q3.s/\((gg=gg/\(True/\(True/\(v6=v6/\(True/\(vb=vb/\(True/\(v5=(q3.c:Int)/\True))))))))/\(m2.ls=q3.s.ls/\([]=q3.s.rw/\(m2.rows=m2.rows/\v9))))))/\(∀ q3:CG,let vg:=(q3.c:Int);let vd:=bQ vb vg (q3.s.ls.getD v1.i zE);let vf:=q3.c<gg.av.toNat/\vd.2=true;let vj:=zV q3.s.ls vd.1;let vk:=aP (q3.s.ls.getD v7 zE);let ve:=bQ vb vg vk;let vh:=gm q3.s.ls (aP (ve.1));let vl:=nE q3.s.ls vd.1;let vi:=q3.s.ls=vl/\(qW v1 m2 q3);(BI false gg e v1.i v1.nx v8 m2.a m2.rows q3.c q3.s->(au gg.av->(((decide (vg<gg.av))=true->(aE v6 q3.s.ls.length/\((aB vk=true/\aj vk<=1000/\0<=vb/\vb<=4096)/\(((!(ve.2))=true->v0)/\((!(ve.2))=false->((au (ve.1).ai->(((!(decide ((ve.1).ai=v2)))=true->(q3.s.ls.length<=1000/\(au vh->(((decide (vh<v5))=true->(au ((q3.s.ls.length:Int))->(bB (q3.s.ls.length+([(aP (ve.1))]).length) 40/\(∃ u4:Unit,(vf/\((gg=gg/\(True/\(True/\(v6=v6/\(True/\(vb=vb/\(True/\(vg=vg/\(((q3.s.ls.length:Int))=vj/\True)))))))))/\((q3.s.ls++([(aP (ve.1))]))=vl/\(qW v1 m2 q3))))))))/\((decide (vh<v5))=false->(∃ u4:Unit,(vf/\((gg=gg/\(True/\(True/\(v6=v6/\(True/\(vb=vb/\(True/\(vg=vg/\(vh=vj/\True)))))))))/\vi))))))))/\((!(decide ((ve.1).ai=v2)))=false->(∃ u4:Unit,(vf/\((gg=gg/\(True/\(True/\(v6=v6/\(True/\(vb=vb/\(True/\(vg=vg/\((-1:Int)=vj/\True)))))))))/\vi))))))/\(∀ u4:Unit,(vf->(bB (q3.s.rw.length+([vj]).length) 8/\(au (vg+v2)/\(∃ q5:CG,(BI false gg e v1.i v1.nx v8 m2.a m2.rows q5.c q5.s/\(gg.av.toNat - q5.c<gg.av.toNat - q3.c/\((gg=gg/\(True/\(True/\(v6=v6/\(True/\(vb=vb/\(True/\((vg+v2)=(q5.c:Int)/\True))))))))/\(vl=q5.s.ls/\((q3.s.rw++([vj]))=q5.s.rw/\(m2.rows=m2.rows/\v9)))))))))))))))))/\((decide (vg<gg.av))=false->(bB (m2.rows.length+([q3.s.rw]).length) 24/\(au (vb+v2)/\(∃ m4:CH,(BM false gg e v1.i v1.nx v8 m4.a m4.ls m4.rows/\(v4.toNat - m4.a<v4.toNat - m2.a/\((gg=gg/\(True/\(True/\(v6=v6/\(True/\((vb+v2)=(m4.a:Int)/\True))))))/\(q3.s.ls=m4.ls/\((m2.rows++([q3.s.rw]))=m4.rows/\v9)))))))))))))))/\((decide (vb<v4))=false->(bB (v1.nx.length+([m2.rows]).length) 24/\(au ((m2.ls.length:Int))->((vc=true->v0)/\(vc=false->(au (v6+v2)/\(∃ v3:CI,(BO false gg e v3.i v3.ls v3.nx/\(60 - v3.i<60 - v1.i/\((gg=gg/\(True/\(True/\((v6+v2)=(v3.i:Int)/\True))))/\(m2.ls=v3.ls/\((v1.nx++([m2.rows]))=v3.nx/\True)))))))))))))))))))/\((decide (v6<va))=false->(v1.ls=(dk gg e)/\(v1.nx=(fB gg e)/\v5=(dC gg e)))))))))))) ?_;obtain⟨hg,he,hn⟩:=hp;have hq:=(dW gg).1 hg;have ha:=iC gg hq.1;refine⟨?_,⟨(CI.mk 0 [ej e] []),?_,⟨rfl,af,af,?_,af⟩,?_,?_,af⟩,λ v1 _ _=>⟨λ _=>⟨⟨(CH.mk 0 v1.ls []),?_,⟨rfl,af,af,rfl,af,?_,af⟩,?_,?_,rfl,af⟩,λ m2 _=>⟨?_,λ _=>⟨λ _=>⟨⟨(CG.mk 0 (kX.mk m2.ls [])),?_,⟨rfl,af,af,rfl,af,rfl,af,?_,af⟩,?_,?_,rfl,rfl,af⟩,λ q3 _ _=>⟨λ _=>⟨?_,?_,λ _=>⟨?_,?_,?_⟩,λ _=>⟨λ _=>⟨λ _=>⟨?_,λ _=>⟨λ _ _=>⟨?_,(),?_,⟨rfl,af,af,rfl,af,rfl,af,rfl,?_,af⟩,?_,⟨rfl,rfl,rfl,af⟩,⟨rfl,rfl,rfl,af⟩,rfl,rfl,rfl,af⟩,λ _=>⟨(),?_,⟨rfl,af,af,rfl,af,rfl,af,rfl,?_,af⟩,?_,⟨rfl,rfl,rfl,af⟩,⟨rfl,rfl,rfl,af⟩,rfl,rfl,rfl,af⟩⟩⟩,λ _=>⟨(),?_,⟨rfl,af,af,rfl,af,rfl,af,rfl,?_,af⟩,?_,⟨rfl,rfl,rfl,af⟩,⟨rfl,rfl,rfl,af⟩,rfl,rfl,rfl,af⟩⟩,λ u4 _=>⟨?_,?_,(CG.mk (q3.c+1) (kX.mk (nE q3.s.ls (bQ (m2.a:Int) (q3.c:Int) (q3.s.ls.getD v1.i zE)).1) (q3.s.rw++[zV q3.s.ls (bQ (m2.a:Int) (q3.c:Int) (q3.s.ls.getD v1.i zE)).1]))),?_,?_,⟨rfl,af,af,rfl,af,rfl,af,?_,af⟩,?_,?_,rfl,rfl,af⟩⟩⟩,λ _=>⟨?_,?_,(CH.mk (m2.a+1) q3.s.ls (m2.rows++[q3.s.rw])),?_,?_,⟨rfl,af,af,rfl,af,?_,af⟩,?_,?_,rfl,af⟩⟩⟩,λ _=>⟨?_,λ _=>⟨λ _=>⟨?_,?_,?_⟩,λ _=>⟨?_,(CI.mk (v1.i+1) m2.ls (v1.nx++[m2.rows])),?_,?_,⟨rfl,af,af,?_,af⟩,?_,?_,af⟩⟩⟩⟩⟩⟩,λ _=>⟨?_,?_,?_⟩⟩⟩;all_goals try and_intros
 all_goals try (first|with_reducible rfl|with_reducible assumption)
 all_goals try simp only[J.eta,cu] at *
 all_goals (try simp only[a7V,a8e,a7D,a7C,aE,au,bB,a8t,a7K,a7I,a7T] at *);first|with_reducible assumption|omega|with_reducible rfl|exact trivial|exact BO.first _ _ _ he hn|exact BO.go (by with_reducible assumption) (by omega)|exact BM.go (by with_reducible assumption) (by omega)|exact BM.done (by with_reducible assumption) (by omega) (by omega)|exact BI.done (by with_reducible assumption) (by omega) (by omega)|(obtain⟨_,_,_,_,_,_,_,_⟩:=(BI.lens (b:=false) (e:=e) (by with_reducible assumption) hg);omega)|(obtain⟨_,_,_,_,_,_⟩:=(BM.lens (b:=false) (e:=e) (by with_reducible assumption) hg);omega)|(obtain⟨_,_,_⟩:=(BO.lens (b:=false) (e:=e) (by with_reducible assumption));omega)|exact (fe (BI.Ir (by with_reducible assumption) (by omega) (by with_reducible assumption))).1.symm|exact (fe (BI.Ir (by with_reducible assumption) (by omega) (by with_reducible assumption))).2.1.symm|exact (fe (BI.Ir (by with_reducible assumption) (by omega) (by with_reducible assumption))).2.2.symm|exact (fe (BM.over (by with_reducible assumption) (by omega) (by omega))).1.symm|exact (fe (BM.over (by with_reducible assumption) (by omega) (by omega))).2.1.symm|exact (fe (BM.over (by with_reducible assumption) (by omega) (by omega))).2.2.symm|exact (tO (BO.done (by with_reducible assumption) (by omega))).1.symm|exact (tO (BO.done (by with_reducible assumption) (by omega))).2.1.symm|exact (tO (BO.done (by with_reducible assumption) (by omega))).2.2.symm|exact (BI.get (by with_reducible assumption)).1|exact (BI.get (by with_reducible assumption)).2|exact BI.a3R (by with_reducible assumption) (by omega) (by with_reducible assumption)|exact (JJ (by with_reducible assumption)).1|exact (JJ (by with_reducible assumption)).2|exact (JK (by with_reducible assumption) (by omega)).1|exact (JK (by with_reducible assumption) (by omega)).2|exact (JL (by with_reducible assumption) (by omega)).1|exact (JL (by with_reducible assumption) (by omega)).2|rfl
noncomputable def tV(x:J)(a:Nat):List Bool:=(List.range a).map λ (i:Nat)=>eE (i:Int) x
noncomputable def mI(gg:aG)(ls:List J):List (List Bool):=ls.map λ x=>tV x (bA gg).toNat
def Ys(x:J)(a:Nat):tV x a++[eE (a:Int) x]=tV x (a+1):=by simp[tV,b1o]
def Ms(x:J)(a:Nat):(tV x a).length=a:=by simp[tV]
def a3s(gg:aG)(ls:List J)(k:Nat)(h:k<ls.length):mI gg (ls.take k)++[tV (ls.getD k zE) (bA gg).toNat]=mI gg (ls.take (k+1)):=by
 rw[jS zE ls k h];simp[mI]
def Yt(gg:aG)(ls:List J)(k:Nat)(h:k<=ls.length):(mI gg (ls.take k)).length=k:=by simp[mI];omega
noncomputable def iS(gg:aG)(e:J):U:=if dC gg e=0 then U.mk gg (mI gg (dk gg e)) (fB gg e) else U.mk (aG.mk (0:Int) (0:Int)) [] []
def P1{b:Bool}{gg:aG}{e:J}(h4s:gg.av.toNat<=4):∀ (f i:Nat) (ls:List J) (nx:List (List (List Int))),f+i=61->BO b gg e i ls nx->∀ q,kV b gg e=some q->∃ j,BO b gg e j q.1 q.2/\q.1.length<=j
 | 0,i,ls,nx,hf,h,q,hq=>by have:=h.le;have:=h.lu;omega
 | f+1,i,ls,nx,hf,h,q,hq=>by
  by_cases hi:i<ls.length
  .have hm:∀ (m a:Nat),m+a=(bA gg).toNat->∀ Zy rows,BM b gg e i nx (ls.getD i zE) a Zy rows->∃ j,BO b gg e j q.1 q.2/\q.1.length<=j:=by
    intro m;induction m with
    | zero =>
     intro a ha Zy rows hB;by_cases h6:Zy.length<=60
     .exact P1 h4s f (i+1) Zy _ (by omega) (hB.done (by omega) h6) q hq
     .have:=hB.over (by omega) (by omega);rw[this] at hq;cases hq
    | succ m ih =>
     intro a ha Zy rows hB;have hc:∀ (n c:Nat),n+c=gg.av.toNat->∀ s,BI b gg e i nx (ls.getD i zE) a rows c s->∃ j,BO b gg e j q.1 q.2/\q.1.length<=j:=by
      intro n;induction n with
      | zero =>
       intro c hc s hI;exact ih (a+1) (by omega) s.ls (rows++[s.rw]) (hI.done h4s (by omega))
      | succ n UM =>
       intro c hc s hI;cases hs:(bQ (a:Int) (c:Int) (ls.getD i zE)).2 with
       | false=>have:=hI.w0 (by omega) hs;rw[this] at hq;cases hq
       | true =>
        by_cases h2:(cr (a:Int) (c:Int) (ls.getD i zE)).ai=1
        .exact UM (c+1) (by omega) _ (hI.w1 (by omega) hs h2)
        .by_cases h3:gm s.ls (cr (a:Int) (c:Int) (ls.getD i zE))<0
         .by_cases h4:b=true/\s.ls.length=60
          .obtain⟨rfl,h4⟩:=h4;have:=hI.w4 (by omega) hs h2 h3 h4;rw[this] at hq;cases hq
          .exact UM (c+1) (by omega) _ (hI.w3 (by omega) hs h2 h3 λ hb hl=>h4 ⟨hb,hl⟩)
         .exact UM (c+1) (by omega) _ (hI.w2 (by omega) hs h2 (by omega))
     exact hc gg.av.toNat 0 rfl _ (hB.go (by omega))
   exact hm _ 0 rfl _ _ (h.go hi)
  .have:=h.done (by omega);rw[this] at hq;cases hq;exact⟨i,h,by show ls.length<=i;omega⟩
structure a1H(gg:aG)(e:J):Prop where
 pos:0<(dk gg e).length
 lu:(dk gg e).length<=60
 len:(fB gg e).length=(dk gg e).length
 ok:Lf (bA gg).toNat gg.av.toNat (dk gg e).length (fB gg e)
 qS:od (dk gg e)
def RA(gg:aG)(e:J)(hg:ca gg=true)(he:aB e=true)(hn:aj e<=1000)(h:dC gg e=0):a1H gg e:=by
 rw[dW] at hg;cases hs:kV false gg e with
 | none=>have:=(fe hs).2.2;rw[this] at h;cases h
 | some q =>
  obtain⟨j,hB,hj⟩:=P1 (by omega) 61 0 _ _ rfl (BO.first false gg e he hn) q hs;obtain⟨h1,h2,_⟩:=tO (ls:=q.1) (nx:=q.2) hs;have:=hB.le;exact⟨by rw[h1];exact hB.pos,by rw[h1];exact hB.lu,by rw[h1,h2];have:=hB.ua;omega,by rw[h1,h2];exact hB.ok,by rw[h1];exact hB.qS⟩
def a1J{gg:aG}{e:J}(h:dC gg e=0):U.mk gg (mI gg (dk gg e)) (fB gg e)=iS gg e:=by rw[iS,a7E h]
def JO{gg:aG}{e:J}(h:¬ dC gg e=0):U.mk (aG.mk (0:Int) (0:Int)) [] []=iS gg e:=by rw[iS,a7z h]
structure je(gg:aG)(e:J)(k:Nat):Prop where
 ok:a1H gg e
 c:dC gg e=0
 le:k<=(dk gg e).length
def je.lens{gg:aG}{e:J}{k:Nat}(h:je gg e k):(mI gg ((dk gg e).take k)).length=k/\k<=(dk gg e).length/\(dk gg e).length<=60/\(fB gg e).length<=60 :=
 ⟨Yt gg _ k h.le,h.le,h.ok.lu,by rw[h.ok.len];exact h.ok.lu⟩
def je.get{gg:aG}{e:J}{k:Nat}(h:je gg e k)(hk:k<(dk gg e).length):aB ((dk gg e).getD k zE)=true:=(h.ok.qS.get hk).1
def je.next{gg:aG}{e:J}{k:Nat}(h:je gg e k)(hk:k<(dk gg e).length):je gg e (k+1):=⟨h.ok,h.c,hk⟩
def je.step{gg:aG}{e:J}{k a:Nat}(_h:je gg e k)(hk:k<(dk gg e).length)(ha:a<=(bA gg).toNat)(ha':(bA gg).toNat<=a):mI gg ((dk gg e).take k)++[tV ((dk gg e).getD k zE) a]=mI gg ((dk gg e).take (k+1)):=by
 rw[show a=(bA gg).toNat by omega];exact a3s gg _ k hk
def je.done{gg:aG}{e:J}{k:Nat}(h:je gg e k)(hk:(dk gg e).length<=k):U.mk gg (mI gg ((dk gg e).take k)) (fB gg e)=iS gg e:=by
 rw[a8o hk];exact a1J h.c
def zA:aW:=⟨zN,[.v (.st .sig), .r (.st .expr)],λ (gg:aG) (e:J)=>⟨(some (ca gg=true/\aB e=true/\aj e<=1000),[⟨(.st .automaton),iS gg e⟩,⟨(.int .i64),dC gg e⟩])⟩⟩
def K4(gg:aG)(e:J):Nat->aL:=(eS 0 (.mk (Nat) (λ k=>je gg e k) (λ k=>(dk gg e).length - k) [] [0,1,5,7,8,13,14,15,16,17,18,19,20,21,24,25,26] (λ k=>[(10, .aQ ⟨(.int .i64),((k:Int):Int)⟩)]) [4] (λ k=>[(9, .box [.aQ ⟨(.int .i64),(gg.aS:Int)⟩, .aQ ⟨(.int .i64),(gg.av:Int)⟩, .row 3000, .aQ ⟨(.slice (.slice (.slice (.int .i64)))),(fB gg e:List (List (List Int)))⟩]),(3000, .row Pf (.slice .bool) (mI gg ((dk gg e).take k):List (List Bool)))]) [] [] (λ k=>(eS 2 (.a (Nat) (λ a=>a<=(bA gg).toNat) (λ a=>(bA gg).toNat - a) [27,28,29,30,33] (λ a=>[(12, .aQ ⟨(.int .i64),((a:Int):Int)⟩),(11, .row 33)]) [4,9,3000] (λ a=>[(33, .row FM .bool (tV ((dk gg e).getD k zE) a:List Bool))])) cB))) cB)
abbrev uW(gg:aG)(e:J)(k1:Nat):Prop:=((gg.aS=gg.aS/\(gg.av=gg.av/\(True/\((fB gg e)=(fB gg e)/\True))))/\((mI gg ((dk gg e).take k1))=(mI gg ((dk gg e).take k1))/\(((0:Int)=(0:Int)/\((0:Int)=(0:Int)/\(True/\(True/\True))))/\True)))
def EP:aW.Good zA:=by
 refine⟨aD wJ,?_⟩;intro (gg:aG) (e:J) (hp:ca gg=true/\aB e=true/\aj e<=1000);refine aV [vu,hJ,kl] [] [] [2] ⟨A6,gN,qT,af⟩ wJ En (K4 gg e) (let v0:=dk gg e;let v1:=gg.aS=gg.aS/\(gg.av=gg.av/\(True/\((fB gg e)=(fB gg e)/\True)));let v3:=(0:Int);let v2:=(v3=v3/\(v3=v3/\(True/\(True/\True))))/\True;let v4:=bA gg;let v5:=dC gg e;let v6:=(v0.length:Int);(((ca gg=true/\aB e=true/\aj e<=1000)/\(v0.length<=140737488355328->((fB gg e).length<=140737488355328->(au v5->(((!(decide (v5=v3)))=true->((U.mk (aG.mk v3 v3) [] [])=(iS gg e)/\v5=v5))/\((!(decide (v5=v3)))=false->((∃ k1:Nat,(je gg e k1/\((gg=gg/\(True/\(v0=v0/\(True/\(v3=(k1:Int)/\True)))))/\(v1/\((mI gg (v0.take k1))=[]/\v2)))))/\(∀ k1:Nat,let v7:=v0.getD k1 zE;let v8:=(k1:Int);let v9:=mI gg (v0.take k1);(je gg e k1->(au v6->(((decide (v8<v6))=true->((∃ a2:Nat,(a2<=v4.toNat/\((gg=gg/\(True/\(v0=v0/\(True/\(v8=v8/\(True/\(v3=(a2:Int)/\True)))))))/\([]=(tV v7 a2)/\(uW gg e k1)))))/\(∀ a2:Nat,let va:=(a2:Int);(a2<=v4.toNat->((0<=gg.aS/\gg.aS<=3)/\(au v4->(((decide (va<v4))=true->(aE v8 v0.length/\((aB v7=true/\0<=va/\va<=4096)/\(bB ((tV v7 a2).length+([(eE va v7)]).length) 1/\(au (va+(1:Int))/\(∃ a3:Nat,(a3<=v4.toNat/\(v4.toNat - a3<v4.toNat - a2/\((gg=gg/\(True/\(v0=v0/\(True/\(v8=v8/\(True/\((va+(1:Int))=(a3:Int)/\True)))))))/\(((tV v7 a2)++([(eE va v7)]))=(tV v7 a3)/\(uW gg e k1)))))))))))/\((decide (va<v4))=false->(bB (v9.length+([(tV v7 a2)]).length) 24/\(au (v8+(1:Int))/\(∃ k3:Nat,(je gg e k3/\(v0.length - k3<v0.length - k1/\((gg=gg/\(True/\(v0=v0/\(True/\((v8+(1:Int))=(k3:Int)/\True)))))/\(v1/\((v9++([(tV v7 a2)]))=(mI gg (v0.take k3))/\v2))))))))))))))))/\((decide (v8<v6))=false->((U.mk (aG.mk gg.aS gg.av) v9 (fB gg e))=(iS gg e)/\v3=v5))))))))))))))) ?_;obtain⟨hg,he,hn⟩:=hp;have hq:=(dW gg).1 hg;have ha:=iC gg hq.1;refine⟨?_,λ _ _ a2=>⟨λ a3=>⟨?_,rfl⟩,λ a3=>⟨⟨0,?_,⟨rfl,af,rfl,af,?_,af⟩,⟨rfl,rfl,af,rfl,af⟩,?_,⟨rfl,rfl,af,af,af⟩,af⟩,λ k1 _ _=>⟨λ _=>⟨⟨0,?_,⟨rfl,af,rfl,af,rfl,af,?_,af⟩,?_,⟨rfl,rfl,af,rfl,af⟩,rfl,⟨rfl,rfl,af,af,af⟩,af⟩,λ a2 _=>⟨?_,λ _=>⟨λ _=>⟨?_,?_,?_,?_,a2+1,?_,?_,⟨rfl,af,rfl,af,rfl,af,?_,af⟩,?_,⟨rfl,rfl,af,rfl,af⟩,rfl,⟨rfl,rfl,af,af,af⟩,af⟩,λ _=>⟨?_,?_,k1+1,?_,?_,⟨rfl,af,rfl,af,?_,af⟩,⟨rfl,rfl,af,rfl,af⟩,?_,⟨rfl,rfl,af,af,af⟩,af⟩⟩⟩⟩,λ _=>⟨?_,?_⟩⟩⟩⟩⟩;all_goals try and_intros
 all_goals (try simp only[a7V,a8e,a7D,a7C,aE,au,bB,a8t,a7K,a7I,a7T,Ms] at *);first|with_reducible assumption|omega|with_reducible rfl|exact trivial|(obtain⟨_,_,_,_⟩:=je.lens (by with_reducible assumption);omega)|exact je.mk (RA gg e hg he hn (by omega)) (by omega) (a8r _)|exact je.get (by with_reducible assumption) (by omega)|exact je.next (by with_reducible assumption) (by omega)|exact je.step (by with_reducible assumption) (by omega) (by omega) (by omega)|exact Ys _ _|exact JO (by omega)|exact je.done (gg:=gg) (by with_reducible assumption) (by omega)|exact congrArg U.sig (JO (by omega))|exact congrArg U.sig (je.done (gg:=gg) (by with_reducible assumption) (by omega))|exact congrArg U.accept (JO (by omega))|exact congrArg U.accept (je.done (gg:=gg) (by with_reducible assumption) (by omega))|exact congrArg U.next (JO (by omega))|exact congrArg U.next (je.done (gg:=gg) (by with_reducible assumption) (by omega))|rfl
structure OkE(gg:aG)(e:J):Prop where
 s:ca gg=true
 g:aB e=true
 n:aj e<=1000
def oP{gg:aG}{e:J}(h:dP gg e=true):OkE gg e:=by
 unfold dP at h;rw[Bool.and_eq_true] at h;have hE:=(Zo gg e).1 h.2;have hq:=(dW gg).1 h.1;refine⟨h.1,?_,by omega⟩;have h1:=hE.1;rw[NR _ (by omega),NR _ (by omega)] at h1;exact B8 _ _ 9 9 (by omega) (by omega) e h1
def gK(ls:List J)(t:List UInt8):Option Int:=if (ls.findIdx λ y=>decide (bE y=t))<ls.length then some ((ls.findIdx λ y=>decide (bE y=t):Nat):Int) else none
def find_congr{α:Type}{p q:α->Bool}:∀ (l:List α),(∀ x∈l,p x=q x)->l.findIdx p=l.findIdx q
 | [],_=>rfl
 | x::l,h=>by
  rw[b0t,b0t,h x (by simp),find_congr l λ y hy=>h y (by simp[hy])]
def RR{ls:List J}{d:J}(h:od ls)(hd:aB d=true):gK ls (bE d)=if 0<=gm ls d then some (gm ls d) else none:=by
 have e:(ls.findIdx λ y=>decide (bE y=bE d))=wU ls d:=find_congr ls λ y hy=>by
  by_cases q:y=d
  .subst q;simp
  .have:¬ bE y=bE d:=λ e=>q (Ot (h y hy).1 hd e);rw[decide_eq_false this,Pt.2 q]
 unfold gK;rw[e];unfold gm;by_cases hl:wU ls d<ls.length
 .rw[a7E hl,a7E hl,a7E (by omega)]
 .rw[a7z hl,a7z hl,a7z (by omega)]
def a4i(x:J):eL (ie (List UInt8) Int) (bE x) (0:Int)=gK [x]:=by
 funext t;by_cases h:t=bE x
 .subst h;rw[ou];simp[gK]
 .rw[iw _ _ _ h];have h':¬ bE x=t:=λ e=>h e.symm;simp[ie,gK,b0t,h']
def a4k{ls:List J}{d:J}(h:od ls)(hd:aB d=true)(hf:gm ls d<0):eL (gK ls) (bE d) (ls.length:Int)=gK (ls++[d]):=by
 have hn:=RR h hd;rw[a7z (by omega)] at hn;funext t;by_cases ht:t=bE d
 .subst ht;rw[ou];unfold gK at hn ⊢;have hl:¬ (ls.findIdx λ y=>decide (bE y=bE d))<ls.length:=λ q=>by rw[if_pos q] at hn;cases hn
  have hle:(ls.findIdx λ y=>decide (bE y=bE d))<=ls.length:=b1q;rw[List.findIdx_append,a7z hl];simp
 .rw[iw _ _ _ ht];unfold gK;rw[List.findIdx_append];by_cases hl:(ls.findIdx λ y=>decide (bE y=t))<ls.length
  .rw[a7E hl,a7E hl,a7E (by simp;omega)]
  .have h':¬ bE d=t:=λ e=>ht e.symm;rw[a7z hl,a7z hl];simp[b0t,h'];omega
def a4j{ls:List J}{d:J}(h:od ls)(hd:aB d=true)(hf:gm ls d<0):fK (gK ls (bE d)) ls.length=(ls++[d]).length:=by
 have hn:=RR h hd;rw[a7z (by omega)] at hn;rw[hn];simp[fK]
def BI.UU{gg:aG}{e:J}{i:Nat}{nx:List (List (List Int))}{x:J}{a:Nat}{rows:List (List Int)}{c:Nat}{s:kX}(h:BI true gg e i nx x a rows c s)(hc:c<gg.av.toNat)(h1:(bQ (a:Int) (c:Int) (s.ls.getD i zE)).2=true)
  (h4:¬ (cr (a:Int) (c:Int) (s.ls.getD i zE)).ai=1->gm s.ls (cr (a:Int) (c:Int) (s.ls.getD i zE))<0->¬ s.ls.length=60) :
  BI true gg e i nx x a rows (c+1) ⟨nE s.ls (cr (a:Int) (c:Int) (s.ls.getD i zE)),s.rw++[zV s.ls (cr (a:Int) (c:Int) (s.ls.getD i zE))]⟩:=by
 rw[h.hx] at h1 h4 ⊢;exact h.ZM hc h1 λ _=>h4
def BI.U3{gg:aG}{e:J}{i:Nat}{nx:List (List (List Int))}{x:J}{a:Nat}{rows:List (List Int)}{c:Nat}{s:kX}(h:BI true gg e i nx x a rows c s)(hc:c<gg.av.toNat)(h1:(bQ (a:Int) (c:Int) (s.ls.getD i zE)).2=true)
  (h2:¬ (cr (a:Int) (c:Int) (s.ls.getD i zE)).ai=1) (h3:gm s.ls (cr (a:Int) (c:Int) (s.ls.getD i zE))<0) (h4:s.ls.length=60):kV true gg e=none:=by
 rw[h.hx] at h1 h2 h3;exact h.w4 hc h1 h2 h3 h4
structure rQ(a c:Int)(ls:List J)(i:Nat):Prop where
 gs:od ls
 t:(bQ a c (ls.getD i zE)).2=true
 g:aB (cr a c (ls.getD i zE))=true
 n:aj (cr a c (ls.getD i zE))<=800
def BI.dd{b:Bool}{gg:aG}{e:J}{i:Nat}{nx:List (List (List Int))}{x:J}{a:Nat}{rows:List (List Int)}{c:Nat}{s:kX}(h:BI b gg e i nx x a rows c s)(h1:(bQ (a:Int) (c:Int) (s.ls.getD i zE)).2=true):rQ (a:Int) (c:Int) s.ls i:=by
 have q:=diT (a:Int) (c:Int) _ h.get.1;exact⟨h.qS,h1,q.g h1,q.n h1⟩
def rQ.tx{a c:Int}{ls:List J}{i:Nat}(h:rQ a c ls i):(bE (cr a c (ls.getD i zE))).length<=1000000:=RS _ h.g (by have:=h.n;omega)
def rQ.yes{a c:Int}{ls:List J}{i:Nat}(h:rQ a c ls i)(hs:(gK ls (bE (cr a c (ls.getD i zE)))).isSome=true):(gK ls (bE (cr a c (ls.getD i zE)))).getD (0:Int)=gm ls (cr a c (ls.getD i zE))/\¬ gm ls (cr a c (ls.getD i zE))<0:=by
 rw[RR h.gs h.g] at hs ⊢;by_cases h3:0<=gm ls (cr a c (ls.getD i zE))
 .rw[a7E h3];exact⟨rfl,by omega⟩
 .rw[a7z h3] at hs;cases hs
def rQ.no{a c:Int}{ls:List J}{i:Nat}(h:rQ a c ls i)(hs:(gK ls (bE (cr a c (ls.getD i zE)))).isSome=false):gm ls (cr a c (ls.getD i zE))<0:=by
 rw[RR h.gs h.g] at hs;by_cases h3:0<=gm ls (cr a c (ls.getD i zE))
 .rw[a7E h3] at hs;cases hs
 .omega
structure JM(gg:aG)(a c:Int)(ls:List J)(i:Nat):Prop where
 hc:c<gg.av
 d:rQ a c ls i
 k:¬ (cr a c (ls.getD i zE)).ai=1
 f:gm ls (cr a c (ls.getD i zE))<0->¬ ls.length=60
structure JN(gg:aG)(a c:Int)(ls:List J)(i:Nat):Prop where
 hc:c<gg.av
 d:rQ a c ls i
 f:¬ (cr a c (ls.getD i zE)).ai=1->gm ls (cr a c (ls.getD i zE))<0->¬ ls.length=60
def JM.n{gg:aG}{a c:Int}{ls:List J}{i:Nat}(h:JM gg a c ls i):JN gg a c ls i:=⟨h.hc,h.d,λ _=>h.f⟩
def JN.go{gg:aG}{e:J}{i:Nat}{nx:List (List (List Int))}{x:J}{a:Nat}{rows:List (List Int)}{c:Nat}{s:kX}(h:BI true gg e i nx x a rows c s)(j:JN gg (a:Int) (c:Int) s.ls i) :
  BI true gg e i nx x a rows (c+1) ⟨nE s.ls (cr (a:Int) (c:Int) (s.ls.getD i zE)),s.rw++[zV s.ls (cr (a:Int) (c:Int) (s.ls.getD i zE))]⟩:=h.UU (by have:=j.hc;omega) j.d.t j.f
def Zz{a c:Int}{ls:List J}{i:Nat}(h:(cr a c (ls.getD i zE)).ai=1):gK ls=gK (nE ls (cr a c (ls.getD i zE)))/\ls.length=(nE ls (cr a c (ls.getD i zE))).length:=by rw[<-(JJ (ls:=ls) h).2];exact⟨rfl,rfl⟩
def ZA{a c:Int}{ls:List J}{i:Nat}(h:¬ (cr a c (ls.getD i zE)).ai=1)(h2:¬ gm ls (cr a c (ls.getD i zE))<0):gK ls=gK (nE ls (cr a c (ls.getD i zE)))/\ls.length=(nE ls (cr a c (ls.getD i zE))).length:=by rw[<-(JK h h2).2];exact⟨rfl,rfl⟩
def ZB{a c:Int}{ls:List J}{i:Nat}(q:rQ a c ls i)(h:¬ (cr a c (ls.getD i zE)).ai=1)(h2:gm ls (cr a c (ls.getD i zE))<0):eL (gK ls) (bE (cr a c (ls.getD i zE))) (ls.length:Int)=gK (nE ls (cr a c (ls.getD i zE)))/\fK (gK ls (bE (cr a c (ls.getD i zE)))) ls.length=(nE ls (cr a c (ls.getD i zE))).length:=by
 rw[<-(JL h h2).2];exact⟨a4k q.gs q.g h2,a4j q.gs q.g h2⟩
def Wt(e:J)(he:aB e=true)(hn:aj e<=1000):aB (ej e)=true/\(bE (ej e)).length<=1000000:=⟨(B5 e he).g,RS _ (B5 e he).g (by have:=(B5 e he).n;omega)⟩
def xq:aW:=⟨xC,[.v (.st .sig), .v (.st .expr)],λ (gg:aG) (e:J)=>⟨(some (ca gg=true/\aB e=true/\aj e<=1000),[⟨(.slice (.st .expr)),dk gg e⟩,⟨(.slice (.slice (.slice (.int .i64)))),fB gg e⟩,⟨(.int .i64),dC gg e⟩])⟩⟩
def IZ(gg:aG)(e:J):Nat->aL:=(eS 0 (.mk (CI) (λ v=>BO true gg e v.i v.ls v.nx) (λ v=>60 - v.i) [] [0,1,3,20,21,22,23,24,25,26,27,28,29] (λ v=>[(10, .aQ ⟨(.int .i64),((v.i:Int):Int)⟩),(7, .row 22),(8, .mp 23),(9, .row 29)]) [] (λ v=>[(22, .row eh (.st .expr) (v.ls:List J)),(23, .map ⟨.str,(.int .i64),(gK v.ls:List UInt8->Option Int),v.ls.length⟩),(29, .row FO (.slice (.slice (.int .i64))) (v.nx:List (List (List Int))))]) [] [] (λ v=>(eS 2 (.mk (CH) (λ m=>BM true gg e v.i v.nx (v.ls.getD v.i zE) m.a m.ls m.rows) (λ m=>(bA gg).toNat - m.a) [] [30,31,32,33,36,37] (λ m=>[(39, .aQ ⟨(.int .i64),((m.a:Int):Int)⟩),(11, .row 36),(7, .row 22),(8, .mp 23)]) [29] (λ m=>[(22, .row eh (.st .expr) (m.ls:List J)),(23, .map ⟨.str,(.int .i64),(gK m.ls:List UInt8->Option Int),m.ls.length⟩),(36, .row LX (.slice (.int .i64)) (m.rows:List (List Int)))]) [] [] (λ m=>(eS 4 (.mk (CG) (λ q=>BI true gg e v.i v.nx (v.ls.getD v.i zE) m.a m.rows q.c q.s) (λ q=>gg.av.toNat - q.c) [] [40,41,42,43] (λ q=>[(45, .aQ ⟨(.int .i64),((q.c:Int):Int)⟩),(13, .row 42),(7, .row 22),(8, .mp 23)]) [29,36] (λ q=>[(22, .row eh (.st .expr) (q.s.ls:List J)),(23, .map ⟨.str,(.int .i64),(gK q.s.ls:List UInt8->Option Int),q.s.ls.length⟩),(42, .row mL (.int .i64) (q.s.rw:List Int))]) [] [] (λ q=>(eS 100028 (.u (JM gg (m.a:Int) (q.c:Int) q.s.ls v.i) [14,15,16,17,19,46,47,48,49,50,51,52,53,54,55,56,57,58,59,60,61,62,66,67,68,69,70,71,72,73] [(18, .aQ ⟨(.int .i64),(zV q.s.ls (cr (m.a:Int) (q.c:Int) (q.s.ls.getD v.i zE)):Int)⟩),(7, .row 22),(8, .mp 23)] [15,29,36,42] [(22, .row eh (.st .expr) ((nE q.s.ls (cr (m.a:Int) (q.c:Int) (q.s.ls.getD v.i zE))):List J)),(23, .map ⟨.str,(.int .i64),(gK (nE q.s.ls (cr (m.a:Int) (q.c:Int) (q.s.ls.getD v.i zE))):List UInt8->Option Int),((nE q.s.ls (cr (m.a:Int) (q.c:Int) (q.s.ls.getD v.i zE))).length)⟩)] cB) (eS 100029 (.u (JN gg (m.a:Int) (q.c:Int) q.s.ls v.i) [46] [(13, .row 42),(7, .row 22),(8, .mp 23)] [29,36] [(22, .row eh (.st .expr) ((nE q.s.ls (cr (m.a:Int) (q.c:Int) (q.s.ls.getD v.i zE))):List J)),(23, .map ⟨.str,(.int .i64),(gK (nE q.s.ls (cr (m.a:Int) (q.c:Int) (q.s.ls.getD v.i zE))):List UInt8->Option Int),((nE q.s.ls (cr (m.a:Int) (q.c:Int) (q.s.ls.getD v.i zE))).length)⟩),(42, .row mL (.int .i64) (q.s.rw++[zV q.s.ls (cr (m.a:Int) (q.c:Int) (q.s.ls.getD v.i zE))]:List Int))] cB) cB)))) cB))) cB))) cB)
abbrev E6(gg:aG)(v1:CI)(m2:CH)(q3:CG):Prop:=(gg=gg/\(True/\(True/\(True/\((v1.i:Int)=(v1.i:Int)/\(True/\((m2.a:Int)=(m2.a:Int)/\(True/\((bA gg)=(bA gg)/\((m2.a:Int)=(m2.a:Int)/\(gg.av=gg.av/\((q3.c:Int)=(q3.c:Int)/\True))))))))))))
abbrev sS(v1:CI)(m2:CH)(q3:CG):Prop:=(let v0:=nE q3.s.ls (cr (m2.a:Int) (q3.c:Int) (q3.s.ls.getD v1.i zE));((gK q3.s.ls)=(gK v0)/\q3.s.ls.length=(v0.length)))
abbrev sT(v1:CI)(m2:CH)(q3:CG):Prop:=(let v0:=cr (m2.a:Int) (q3.c:Int) (q3.s.ls.getD (Int.toNat (v1.i:Int)) zE);((v0.ai=v0.ai/\(v0.aZ=v0.aZ/\(v0.O=v0.O/\True)))/\(q3.s.rw=q3.s.rw/\(m2.rows=m2.rows/\(v1.nx=v1.nx/\True)))))
def C5:aW.Good xq:=by
 refine⟨aD uv,?_⟩;intro (gg:aG) (e:J) (hp:ca gg=true/\aB e=true/\aj e<=1000);refine aV [rq,Bs,iV,zp] [] [] [2,3] ⟨qd,GG,iF,EA,af⟩ uv CS (IZ gg e) (let v0:=bA gg;let v2:=([(ej e)]).getD 0 zE;let v4:=[]=(dk gg e)/\([]=(fB gg e)/\(3:Int)=(dC gg e));let v5:=(0:Int);let v6:=(1:Int);(((aB e=true/\aj e<=3000)/\(aE v5 ([(ej e)]).length/\((aB v2=true/\(bE v2).length<=1000000)/\((bE v2).length<=140737488355328->(0<1000000000/\((∃ v1:CI,(BO true gg e v1.i v1.ls v1.nx/\((gg=gg/\(True/\(True/\(True/\(v5=(v1.i:Int)/\True)))))/\(([(ej e)])=v1.ls/\(((eL (ie (List UInt8) Int) (bE v2) v5)=(gK v1.ls)/\(fK (((ie (List UInt8) Int) (bE v2))) 0)=v1.ls.length)/\([]=v1.nx/\True))))))/\(∀ v1:CI,let v8:=(v1.i:Int);let v7:=Int.toNat v8;let v9:=v1.nx=v1.nx/\True;let va:=v1.ls.getD v1.i zE;let vb:=(v1.ls.length:Int);(BO true gg e v1.i v1.ls v1.nx->(au vb->(((decide (v8<vb))=true->((0<=gg.aS/\gg.aS<=3)/\(au v0->((∃ m2:CH,(BM true gg e v1.i v1.nx va m2.a m2.ls m2.rows/\((gg=gg/\(True/\(True/\(True/\(v8=v8/\(True/\(v0=v0/\(v5=(m2.a:Int)/\True))))))))/\(v1.ls=m2.ls/\(((gK v1.ls)=(gK m2.ls)/\v1.ls.length=m2.ls.length)/\([]=m2.rows/\v9))))))/\(∀ m2:CH,let vc:=(m2.a:Int);let vd:=m2.rows=m2.rows/\v9;(BM true gg e v1.i v1.nx va m2.a m2.ls m2.rows->(((decide (vc<v0))=true->(au gg.av->((∃ q3:CG,(BI true gg e v1.i v1.nx va m2.a m2.rows q3.c q3.s/\((gg=gg/\(True/\(True/\(True/\(v8=v8/\(True/\(vc=vc/\(True/\(v0=v0/\(vc=vc/\(gg.av=gg.av/\(v5=(q3.c:Int)/\True))))))))))))/\(m2.ls=q3.s.ls/\(((gK m2.ls)=(gK q3.s.ls)/\m2.ls.length=q3.s.ls.length)/\([]=q3.s.rw/\vd))))))/\(∀ q3:CG,let vh:=(q3.c:Int);let ve:=cr vc vh (q3.s.ls.getD v1.i zE);let vg:=nE q3.s.ls ve;let vj:=(q3.s.ls.length:Int);let vk:=v0=v0/\(vc=vc/\(gg.av=gg.av/\(vh=vh/\True)));let vl:=q3.s.ls.getD v7 zE;let vf:=cr vc vh vl;let vm:=q3.s.rw++[zV q3.s.ls ve];let vn:=aP vf;let vi:=((gK q3.s.ls) (bE vn));let vo:=zV q3.s.ls ve;let vp:=E6 gg v1 m2 q3;(BI true gg e v1.i v1.nx va m2.a m2.rows q3.c q3.s->(((decide (vh<gg.av))=true->((aE v8 q3.s.ls.length/\((aB vl=true/\aj vl<=1000/\0<=vc/\vc<=4096)/\(((!((bQ vc vh vl).2))=true->v4)/\((!((bQ vc vh vl).2))=false->(au vf.ai->(((decide (vf.ai=v6))=true->(bB (q3.s.rw.length+([(-1:Int)]).length) 8/\(∃ u4:Unit,(JN gg vc vh q3.s.ls v1.i/\(vp/\(q3.s.ls=vg/\((sS v1 m2 q3)/\((q3.s.rw++([(-1:Int)]))=vm/\vd))))))))/\((decide (vf.ai=v6))=false->((aB vn=true/\(bE vn).length<=1000000)/\((bE vn).length<=140737488355328->(au (Option.getD vi v5)->((((!(Option.isSome vi))=true->(au vj->(((decide (vj=(60:Int)))=true->v4)/\((decide (vj=(60:Int)))=false->(au vj->(q3.s.ls.length<1000000000/\(bB (q3.s.ls.length+([vn]).length) 40/\(∃ u4:Unit,(JM gg vc vh q3.s.ls v1.i/\((gg=gg/\(True/\(True/\(True/\(v8=v8/\(True/\(vc=vc/\(True/\(vj=vo/\vk)))))))))/\((q3.s.ls++([vn]))=vg/\(((eL (gK q3.s.ls) (bE vn) vj)=(gK vg)/\(fK vi q3.s.ls.length)=(vg.length))/\(sT v1 m2 q3)))))))))))))/\((!(Option.isSome vi))=false->(∃ u4:Unit,(JM gg vc vh q3.s.ls v1.i/\((gg=gg/\(True/\(True/\(True/\(v8=v8/\(True/\(vc=vc/\(True/\((Option.getD vi v5)=vo/\vk)))))))))/\(q3.s.ls=vg/\((sS v1 m2 q3)/\(sT v1 m2 q3))))))))/\(∀ u4:Unit,(JM gg vc vh q3.s.ls v1.i->(bB (q3.s.rw.length+([vo]).length) 8/\(∃ u5:Unit,(JN gg vc vh q3.s.ls v1.i/\(vp/\(vg=vg/\(((gK vg)=(gK vg)/\(vg.length)=(vg.length))/\((q3.s.rw++([vo]))=vm/\vd))))))))))))))))))))/\(∀ u4:Unit,(JN gg vc vh q3.s.ls v1.i->(au (vh+v6)/\(∃ q5:CG,(BI true gg e v1.i v1.nx va m2.a m2.rows q5.c q5.s/\(gg.av.toNat - q5.c<gg.av.toNat - q3.c/\((gg=gg/\(True/\(True/\(True/\(v8=v8/\(True/\(vc=vc/\(True/\(v0=v0/\(vc=vc/\(gg.av=gg.av/\((vh+v6)=(q5.c:Int)/\True))))))))))))/\(vg=q5.s.ls/\(((gK vg)=(gK q5.s.ls)/\(vg.length)=q5.s.ls.length)/\(vm=q5.s.rw/\vd))))))))))))/\((decide (vh<gg.av))=false->(bB (m2.rows.length+([q3.s.rw]).length) 24/\(au (vc+v6)/\(∃ m4:CH,(BM true gg e v1.i v1.nx va m4.a m4.ls m4.rows/\(v0.toNat - m4.a<v0.toNat - m2.a/\((gg=gg/\(True/\(True/\(True/\(v8=v8/\(True/\(v0=v0/\((vc+v6)=(m4.a:Int)/\True))))))))/\(q3.s.ls=m4.ls/\(((gK q3.s.ls)=(gK m4.ls)/\q3.s.ls.length=m4.ls.length)/\((m2.rows++([q3.s.rw]))=m4.rows/\v9))))))))))))))))/\((decide (vc<v0))=false->(bB (v1.nx.length+([m2.rows]).length) 24/\(au (v8+v6)/\(∃ v3:CI,(BO true gg e v3.i v3.ls v3.nx/\(60 - v3.i<60 - v1.i/\((gg=gg/\(True/\(True/\(True/\((v8+v6)=(v3.i:Int)/\True)))))/\(m2.ls=v3.ls/\(((gK m2.ls)=(gK v3.ls)/\m2.ls.length=v3.ls.length)/\((v1.nx++([m2.rows]))=v3.nx/\True)))))))))))))))))/\((decide (v8<vb))=false->(v1.ls=(dk gg e)/\(v1.nx=(fB gg e)/\v5=(dC gg e)))))))))))))))) ?_;obtain⟨hg,he,hn⟩:=hp;have hq:=(dW gg).1 hg;have ha:=iC gg hq.1;refine⟨?_,?_,?_,λ _=>⟨?_,⟨(CI.mk 0 [ej e] []),?_,⟨rfl,af,af,af,?_,af⟩,?_,⟨?_,?_⟩,?_,af⟩,λ v1 _ _=>⟨λ _=>⟨?_,λ _=>⟨⟨(CH.mk 0 v1.ls []),?_,⟨rfl,af,af,af,rfl,af,rfl,?_,af⟩,?_,⟨?_,?_⟩,?_,rfl,af⟩,λ m2 _=>⟨λ _ _=>⟨⟨(CG.mk 0 (kX.mk m2.ls [])),?_,⟨rfl,af,af,af,rfl,af,rfl,af,rfl,rfl,rfl,?_,af⟩,?_,⟨?_,?_⟩,?_,rfl,rfl,af⟩,λ q3 _=>⟨λ _=>⟨⟨?_,?_,λ _=>⟨?_,?_,?_⟩,λ _ _=>⟨λ _=>⟨?_,(),?_,⟨rfl,af,af,af,rfl,af,rfl,af,rfl,rfl,rfl,rfl,af⟩,?_,⟨?_,?_⟩,?_,rfl,rfl,af⟩,λ _=>⟨?_,λ _ _=>⟨⟨λ _ _=>⟨λ _=>⟨?_,?_,?_⟩,λ _ _=>⟨?_,?_,(),?_,⟨rfl,af,af,af,rfl,af,rfl,af,?_,rfl,rfl,rfl,rfl,af⟩,?_,⟨?_,?_⟩,⟨rfl,rfl,rfl,af⟩,rfl,rfl,rfl,af⟩⟩,λ _=>⟨(),?_,⟨rfl,af,af,af,rfl,af,rfl,af,?_,rfl,rfl,rfl,rfl,af⟩,?_,⟨?_,?_⟩,⟨rfl,rfl,rfl,af⟩,rfl,rfl,rfl,af⟩⟩,λ u4 _=>⟨?_,(),?_,⟨rfl,af,af,af,rfl,af,rfl,af,rfl,rfl,rfl,rfl,af⟩,rfl,⟨rfl,rfl⟩,?_,rfl,rfl,af⟩⟩⟩⟩⟩,λ u4 _=>⟨?_,(CG.mk (q3.c+1) (kX.mk (nE q3.s.ls (cr (m2.a:Int) (q3.c:Int) (q3.s.ls.getD v1.i zE))) (q3.s.rw++[zV q3.s.ls (cr (m2.a:Int) (q3.c:Int) (q3.s.ls.getD v1.i zE))]))),?_,?_,⟨rfl,af,af,af,rfl,af,rfl,af,rfl,rfl,rfl,?_,af⟩,?_,⟨?_,?_⟩,?_,rfl,rfl,af⟩⟩,λ _=>⟨?_,?_,(CH.mk (m2.a+1) q3.s.ls (m2.rows++[q3.s.rw])),?_,?_,⟨rfl,af,af,af,rfl,af,rfl,?_,af⟩,?_,⟨?_,?_⟩,?_,rfl,af⟩⟩⟩,λ _=>⟨?_,?_,(CI.mk (v1.i+1) m2.ls (v1.nx++[m2.rows])),?_,?_,⟨rfl,af,af,af,?_,af⟩,?_,⟨?_,?_⟩,?_,af⟩⟩⟩⟩,λ _=>⟨?_,?_,?_⟩⟩⟩⟩;all_goals try and_intros
 all_goals try (first|with_reducible rfl|with_reducible assumption)
 all_goals try simp only[J.eta,cu] at *
 all_goals (try simp only[a7V,a8e,a7D,a7C,aE,au,bB,a8t,a7K,a7I,a7T] at *);first|with_reducible assumption|omega|with_reducible rfl|exact trivial|exact BO.first _ _ _ he hn|exact BO.go (by with_reducible assumption) (by omega)|exact BM.go (by with_reducible assumption) (by omega)|exact BM.done (by with_reducible assumption) (by omega) (by omega)|exact BI.done (by with_reducible assumption) (by omega) (by omega)|(obtain⟨_,_,_,_,_,_,_,_⟩:=(BI.lens (b:=true) (e:=e) (by with_reducible assumption) hg);omega)|(obtain⟨_,_,_,_,_,_⟩:=(BM.lens (b:=true) (e:=e) (by with_reducible assumption) hg);omega)|(obtain⟨_,_,_⟩:=(BO.lens (b:=true) (e:=e) (by with_reducible assumption));omega)|exact (fe (BI.Ir (by with_reducible assumption) (by omega) (by with_reducible assumption))).1.symm|exact (fe (BI.Ir (by with_reducible assumption) (by omega) (by with_reducible assumption))).2.1.symm|exact (fe (BI.Ir (by with_reducible assumption) (by omega) (by with_reducible assumption))).2.2.symm|exact (fe (BM.over (by with_reducible assumption) (by omega) (by omega))).1.symm|exact (fe (BM.over (by with_reducible assumption) (by omega) (by omega))).2.1.symm|exact (fe (BM.over (by with_reducible assumption) (by omega) (by omega))).2.2.symm|exact (tO (BO.done (by with_reducible assumption) (by omega))).1.symm|exact (tO (BO.done (by with_reducible assumption) (by omega))).2.1.symm|exact (tO (BO.done (by with_reducible assumption) (by omega))).2.2.symm|exact (BI.get (by with_reducible assumption)).1|exact (BI.get (by with_reducible assumption)).2|exact a4i _|exact (Wt e he hn).1|exact (Wt e he hn).2|exact (BI.dd (by with_reducible assumption) (by with_reducible assumption)).g|exact (BI.dd (by with_reducible assumption) (by with_reducible assumption)).tx|exact JM.mk (by omega) (BI.dd (by with_reducible assumption) (by with_reducible assumption)) (by with_reducible assumption) (λ h=>absurd h (rQ.yes (BI.dd (by with_reducible assumption) (by with_reducible assumption)) (by with_reducible assumption)).2)|exact JM.mk (by omega) (BI.dd (by with_reducible assumption) (by with_reducible assumption)) (by with_reducible assumption) (λ _=>by omega)|exact JN.mk (by omega) (BI.dd (by with_reducible assumption) (by with_reducible assumption)) (λ h=>absurd (by with_reducible assumption) h)|exact JM.n (by with_reducible assumption)|exact JN.go (by with_reducible assumption) (by with_reducible assumption)|exact (rQ.yes (BI.dd (by with_reducible assumption) (by with_reducible assumption)) (by with_reducible assumption)).1.trans (JK (by with_reducible assumption) (rQ.yes (BI.dd (by with_reducible assumption) (by with_reducible assumption)) (by with_reducible assumption)).2).1|exact (JL (by with_reducible assumption) (rQ.no (BI.dd (by with_reducible assumption) (by with_reducible assumption)) (by with_reducible assumption))).1|exact (JJ (by with_reducible assumption)).2|exact (JK (by with_reducible assumption) (rQ.yes (BI.dd (by with_reducible assumption) (by with_reducible assumption)) (by with_reducible assumption)).2).2|exact (JL (by with_reducible assumption) (rQ.no (BI.dd (by with_reducible assumption) (by with_reducible assumption)) (by with_reducible assumption))).2|exact (Zz (by with_reducible assumption)).1|exact (ZA (by with_reducible assumption) (rQ.yes (BI.dd (by with_reducible assumption) (by with_reducible assumption)) (by with_reducible assumption)).2).1|exact (ZB (BI.dd (by with_reducible assumption) (by with_reducible assumption)) (by with_reducible assumption) (rQ.no (BI.dd (by with_reducible assumption) (by with_reducible assumption)) (by with_reducible assumption))).1|exact (Zz (by with_reducible assumption)).2|exact (ZA (by with_reducible assumption) (rQ.yes (BI.dd (by with_reducible assumption) (by with_reducible assumption)) (by with_reducible assumption)).2).2|exact (ZB (BI.dd (by with_reducible assumption) (by with_reducible assumption)) (by with_reducible assumption) (rQ.no (BI.dd (by with_reducible assumption) (by with_reducible assumption)) (by with_reducible assumption))).2|exact (fe (BI.U3 (by with_reducible assumption) (by omega) (by with_reducible assumption) (by with_reducible assumption) (rQ.no (BI.dd (by with_reducible assumption) (by with_reducible assumption)) (by with_reducible assumption)) (by omega))).1.symm|exact (fe (BI.U3 (by with_reducible assumption) (by omega) (by with_reducible assumption) (by with_reducible assumption) (rQ.no (BI.dd (by with_reducible assumption) (by with_reducible assumption)) (by with_reducible assumption)) (by omega))).2.1.symm|exact (fe (BI.U3 (by with_reducible assumption) (by omega) (by with_reducible assumption) (by with_reducible assumption) (rQ.no (BI.dd (by with_reducible assumption) (by with_reducible assumption)) (by with_reducible assumption)) (by omega))).2.2.symm|exact BM.done (by with_reducible assumption) (by omega) (BM.b6 (by with_reducible assumption) rfl)|(rw[<-(JJ (by with_reducible assumption)).1])|(simp[fK,ie];done)|exact (JJ (by with_reducible assumption)).1|exact (JJ (by with_reducible assumption)).2|exact (JK (by with_reducible assumption) (by omega)).1|exact (JK (by with_reducible assumption) (by omega)).2|exact (JL (by with_reducible assumption) (by omega)).1|exact (JL (by with_reducible assumption) (by omega)).2|rfl
def qY:aW:=⟨ra,[.v (.st .sig), .v (.st .expr)],λ (gg:aG) (e:J)=>⟨(some (ca gg=true/\aB e=true/\aj e<=1000),[⟨(.st .automaton),iS gg e⟩,⟨(.int .i64),dC gg e⟩])⟩⟩
def De(gg:aG)(e:J):Nat->aL:=(eS 0 (.mk (Nat) (λ k=>je gg e k) (λ k=>(dk gg e).length - k) [] [0,1,3,5,6,7,8,14,15,16,17,18,19,20,21,22,25,26,27] (λ k=>[(30, .aQ ⟨(.int .i64),((k:Int):Int)⟩)]) [4] (λ k=>[(9, .box [.aQ ⟨(.int .i64),(gg.aS:Int)⟩, .aQ ⟨(.int .i64),(gg.av:Int)⟩, .row 3000, .aQ ⟨(.slice (.slice (.slice (.int .i64)))),(fB gg e:List (List (List Int)))⟩]),(3000, .row Pf (.slice .bool) (mI gg ((dk gg e).take k):List (List Bool)))]) [] [] (λ k=>(eS 2 (.a (Nat) (λ a=>a<=(bA gg).toNat) (λ a=>(bA gg).toNat - a) [31,32,33,34,35] (λ a=>[(37, .aQ ⟨(.int .i64),((a:Int):Int)⟩),(12, .row 34)]) [4,9,11,3000] (λ a=>[(34, .row FM .bool (tV ((dk gg e).getD k zE) a:List Bool))])) cB))) cB)
abbrev nN(gg:aG)(e:J)(k1:Nat):Prop:=(let v0:=(dk gg e).getD k1 zE;((v0.ai=v0.ai/\(v0.aZ=v0.aZ/\(v0.O=v0.O/\True)))/\((gg.aS=gg.aS/\(gg.av=gg.av/\(True/\((fB gg e)=(fB gg e)/\True))))/\((mI gg ((dk gg e).take k1))=(mI gg ((dk gg e).take k1))/\(((0:Int)=(0:Int)/\((0:Int)=(0:Int)/\(True/\(True/\True))))/\True)))))
def yp:aW.Good qY:=by
 refine⟨aD oW,?_⟩;intro (gg:aG) (e:J) (hp:ca gg=true/\aB e=true/\aj e<=1000);refine aV [xq,iV,lN] [] [] [2,3] ⟨C5,iF,sJ,af⟩ oW yb (De gg e) (let v0:=dk gg e;let v1:=(v0.length:Int);let v2:=gg.aS=gg.aS/\(gg.av=gg.av/\(True/\((fB gg e)=(fB gg e)/\True)));let v4:=bA gg;let v5:=(0:Int);let v3:=(v5=v5/\(v5=v5/\(True/\(True/\True))))/\True;let v6:=dC gg e;(((ca gg=true/\aB e=true/\aj e<=1000)/\(v0.length<=140737488355328->((fB gg e).length<=140737488355328->(au v6->(((!(decide (v6=v5)))=true->((U.mk (aG.mk v5 v5) [] [])=(iS gg e)/\v6=v6))/\((!(decide (v6=v5)))=false->(au v1->((∃ k1:Nat,(je gg e k1/\((gg=gg/\(True/\(True/\(v0=v0/\(v1=v1/\(v5=(k1:Int)/\True))))))/\(v2/\((mI gg (v0.take k1))=[]/\v3)))))/\(∀ k1:Nat,let v7:=v0.getD k1 zE;let v8:=(k1:Int);let v9:=mI gg (v0.take k1);(je gg e k1->(((decide (v8<v1))=true->(aE v8 v0.length/\((0<=gg.aS/\gg.aS<=3)/\(au v4->((∃ a2:Nat,(a2<=v4.toNat/\((gg=gg/\(True/\(True/\(True/\(True/\(v0=v0/\(v1=v1/\(v8=v8/\(v4=v4/\(v5=(a2:Int)/\True))))))))))/\([]=(tV v7 a2)/\(nN gg e k1)))))/\(∀ a2:Nat,let va:=(a2:Int);(a2<=v4.toNat->(((decide (va<v4))=true->((aB (aP v7)=true/\0<=va/\va<=4096)/\(bB ((tV v7 a2).length+([(eE va (aP v7))]).length) 1/\(au (va+(1:Int))/\(∃ a3:Nat,(a3<=v4.toNat/\(v4.toNat - a3<v4.toNat - a2/\((gg=gg/\(True/\(True/\(True/\(True/\(v0=v0/\(v1=v1/\(v8=v8/\(v4=v4/\((va+(1:Int))=(a3:Int)/\True))))))))))/\(((tV v7 a2)++([(eE va (aP v7))]))=(tV v7 a3)/\(nN gg e k1))))))))))/\((decide (va<v4))=false->(bB (v9.length+([(tV v7 a2)]).length) 24/\(au (v8+(1:Int))/\(∃ k3:Nat,(je gg e k3/\(v0.length - k3<v0.length - k1/\((gg=gg/\(True/\(True/\(v0=v0/\(v1=v1/\((v8+(1:Int))=(k3:Int)/\True))))))/\(v2/\((v9++([(tV v7 a2)]))=(mI gg (v0.take k3))/\v3)))))))))))))))))/\((decide (v8<v1))=false->((U.mk (aG.mk gg.aS gg.av) v9 (fB gg e))=(iS gg e)/\v5=v6))))))))))))))) ?_;obtain⟨hg,he,hn⟩:=hp;have hq:=(dW gg).1 hg;have ha:=iC gg hq.1;refine⟨?_,λ _ _ a2=>⟨λ a3=>⟨?_,rfl⟩,λ a3 _=>⟨⟨0,?_,⟨rfl,af,af,rfl,rfl,?_,af⟩,⟨rfl,rfl,af,rfl,af⟩,?_,⟨rfl,rfl,af,af,af⟩,af⟩,λ k1 _=>⟨λ _=>⟨?_,?_,λ _=>⟨⟨0,?_,⟨rfl,af,af,af,af,rfl,rfl,rfl,rfl,?_,af⟩,?_,⟨rfl,rfl,rfl,af⟩,⟨rfl,rfl,af,rfl,af⟩,rfl,⟨rfl,rfl,af,af,af⟩,af⟩,λ a2 _=>⟨λ _=>⟨?_,?_,?_,a2+1,?_,?_,⟨rfl,af,af,af,af,rfl,rfl,rfl,rfl,?_,af⟩,?_,⟨rfl,rfl,rfl,af⟩,⟨rfl,rfl,af,rfl,af⟩,rfl,⟨rfl,rfl,af,af,af⟩,af⟩,λ _=>⟨?_,?_,k1+1,?_,?_,⟨rfl,af,af,rfl,rfl,?_,af⟩,⟨rfl,rfl,af,rfl,af⟩,?_,⟨rfl,rfl,af,af,af⟩,af⟩⟩⟩⟩,λ _=>⟨?_,?_⟩⟩⟩⟩⟩;all_goals try and_intros
 all_goals try (first|with_reducible rfl|with_reducible assumption)
 all_goals try simp only[J.eta,cu] at *
 all_goals (try simp only[a7V,a8e,a7D,a7C,aE,au,bB,a8t,a7K,a7I,a7T,Ms] at *);first|with_reducible assumption|omega|with_reducible rfl|exact trivial|(obtain⟨_,_,_,_⟩:=je.lens (by with_reducible assumption);omega)|exact je.mk (RA gg e hg he hn (by omega)) (by omega) (a8r _)|exact je.get (by with_reducible assumption) (by omega)|exact je.next (by with_reducible assumption) (by omega)|exact je.step (by with_reducible assumption) (by omega) (by omega) (by omega)|exact Ys _ _|exact JO (by omega)|exact je.done (gg:=gg) (by with_reducible assumption) (by omega)|exact congrArg U.sig (JO (by omega))|exact congrArg U.sig (je.done (gg:=gg) (by with_reducible assumption) (by omega))|exact congrArg U.accept (JO (by omega))|exact congrArg U.accept (je.done (gg:=gg) (by with_reducible assumption) (by omega))|exact congrArg U.next (JO (by omega))|exact congrArg U.next (je.done (gg:=gg) (by with_reducible assumption) (by omega))|rfl
structure rO(a:U):Prop where
 s:ca a.sig=true
 n1:1<=a.accept.length
 n60:a.accept.length<=60
 nx:a.next.length=a.accept.length
 ac:∀ r∈a.accept,r.length=(bA a.sig).toNat
 ok:Lf (bA a.sig).toNat a.sig.av.toNat a.accept.length a.next
def mV{α:Type}{z:α}{xs:List α}{i:Nat}(h:i<xs.length):xs.getD i z∈xs:=by rw[a7G,a7L h];exact a9l _
def Yu{gg:aG}{ls:List J}:∀ r∈mI gg ls,r.length=(bA gg).toNat:=λ r hr=>by
 obtain⟨x,_,rfl⟩:=a7B.1 hr;exact Ms _ _
def X5{gg:aG}{e:J}(hg:ca gg=true)(he:aB e=true)(hn:aj e<=1000)(h:dC gg e=0):rO (iS gg e):=by
 have q:=RA gg e hg he hn h;rw[<-a1J h];have hl:(mI gg (dk gg e)).length=(dk gg e).length:=by simp[mI]
 exact⟨hg,by show 1<=(mI gg (dk gg e)).length;have:=q.pos;omega,by show (mI gg (dk gg e)).length<=60;have:=q.lu;omega,by show (fB gg e).length=(mI gg (dk gg e)).length;have:=q.len;omega,
  Yu,by show Lf _ _ (mI gg (dk gg e)).length (fB gg e);rw[hl];exact q.ok⟩
abbrev nK(a:U):Nat:=a.accept.length
abbrev mK(a:U):Nat:=(bA a.sig).toNat
abbrev kK(a:U):Nat:=a.sig.av.toNat
def Oz(a:U)(i t:Nat):Bool:=decide (i<nK a)&&(a.accept.getD i []).getD t false
def Ll(a:U)(i t x:Nat):Int:=((a.next.getD i []).getD t []).getD x 0
def GB(a:U)(i t x:Nat):Nat:=if i<nK a then (if Ll a i t x<0 then nK a else (Ll a i t x).toNat) else nK a
def rO.row{a:U}(h:rO a){i t x:Nat}(hi:i<nK a)(ht:t<mK a)(hx:x<kK a) : -1<=Ll a i t x/\Ll a i t x<nK a:=by
 have h1:=h.ok (a.next.getD i []) (mV (by rw[h.nx];exact hi));have h2:=h1.2 ((a.next.getD i []).getD t []) (mV (by rw[h1.1];exact ht));exact h2.2 _ (mV (by rw[h2.1];exact hx))
def rO.lens{a:U}(h:rO a):1<=mK a/\mK a<=8/\kK a<=4/\(mK a:Int)=bA a.sig/\(kK a:Int)=a.sig.av:=by
 have hq:=(dW a.sig).1 h.s;have:=iC a.sig hq.1;simp only[mK,kK];refine⟨?_,?_,?_,?_,?_⟩<;>omega
def rO.XZ{a:U}(h:rO a){i:Nat}(hi:i<nK a):(a.accept.getD i []).length=mK a/\(a.next.getD i []).length=mK a:=by
 refine⟨h.ac _ ?_,(h.ok _ ?_).1⟩
 .exact mV hi
 .exact mV (by rw[h.nx];exact hi)
def rO.a2H{a:U}(h:rO a){i t:Nat}(hi:i<nK a)(ht:t<mK a):((a.next.getD i []).getD t []).length=kK a:=by
 have h1:=h.ok (a.next.getD i []) (mV (by rw[h.nx];exact hi));exact (h1.2 _ (mV (by rw[h1.1];exact ht))).1
def rO.go{a:U}(h:rO a){i t x:Nat}(ht:t<mK a)(hx:x<kK a):GB a i t x<=nK a:=by
 unfold GB;split
 .rename_i hi;have:=h.row hi ht hx;split<;>omega
 .omega
structure TO(a:U)(out:List Int):Prop where
 len:out.length=nK a+1
 bd:∀ v∈out,0<=v/\v<100
def TO.get{a:U}{out:List Int}(h:TO a out){i:Nat}(hi:i<=nK a):0<=out.getD i 0/\out.getD i 0<100:=h.bd _ (mV (by rw[h.len];omega))
def UQ(a:U)(out:List Int)(i t x:Nat):List UInt8:=(List.range x).flatMap λ y=>32::lq (out.getD (GB a i t y) 0)
def Vl(b:Bool):List UInt8:=if b=true then [43] else []
def kyR(a:U)(out:List Int)(i t:Nat):List UInt8:=Vl (Oz a i t)++(UQ a out i t (kK a)++[59])
def kyA(a:U)(out:List Int)(i t:Nat):List UInt8:=(List.range t).flatMap (kyR a out i)
def jL(a:U)(out:List Int)(i:Nat):List UInt8:=lq (out.getD i 0)++[124]++kyA a out i (mK a)
def a5c:∀ n:Fin 100,(lq (n.val:Int)).length<=2/\(∀ b∈lq (n.val:Int),48<=b/\b<=57):=by decide +kernel
def a3p:∀ m n:Fin 100,lq (m.val:Int)=lq (n.val:Int)->m=n:=by decide +kernel
def Qx{n:Int}(h:0<=n/\n<100):(lq n).length<=2/\∀ b∈lq n,48<=b/\b<=57:=by
 have:=a5c ⟨n.toNat,by omega⟩;rwa [show ((n.toNat:Nat):Int)=n by omega] at this
def Yn{m n:Int}(h:0<=m/\m<100)(k:0<=n/\n<100)(e:lq m=lq n):m=n:=by
 have:=a3p ⟨m.toNat,by omega⟩ ⟨n.toNat,by omega⟩ (by rw[show ((m.toNat:Nat):Int)=m by omega,show ((n.toNat:Nat):Int)=n by omega];exact e);simp only[Fin.mk.injEq] at this;omega
def Qe(r:List UInt8):Prop:=∀ b t,r=b::t->¬ (48<=b/\b<=57)
def Mp:∀ (x y r s:List UInt8),(∀ b∈x,(48:UInt8)<=b/\b<=57)->(∀ b∈y,(48:UInt8)<=b/\b<=57)->Qe r->Qe s->x++r=y++s->x=y/\r=s
 | [],[],r,s,_,_,_,_,h=>⟨rfl,h⟩
 | [],b::y,r,s,_,hy,hr,_,h=>absurd (hy b (by simp)) (hr b (y++s) (by simpa using h))
 | b::x,[],r,s,hx,_,_,hs,h=>absurd (hx b (by simp)) (hs b (x++r) (by simpa using h.symm))
 | b::x,c::y,r,s,hx,hy,hr,hs,h=>by
  simp only[a8p,a7A] at h;obtain⟨h1,h2⟩:=Mp x y r s (λ d hd=>hx d (by simp[hd])) (λ d hd=>hy d (by simp[hd])) hr hs h.2;exact⟨by rw[h.1,h1],h2⟩
def Qe.c{b:UInt8}{t:List UInt8}(h:¬ (48<=b/\b<=57)):Qe (b::t):=λ c u e=>by cases e;exact h
def a2C{f g:Nat->Int}:∀ (l:List Nat) (r s:List UInt8),(∀ y∈l,0<=f y/\f y<100)->(∀ y∈l,0<=g y/\g y<100)->(l.flatMap λ y=>32::lq (f y))++(59::r)=(l.flatMap λ y=>32::lq (g y))++(59::s)->(∀ y∈l,f y=g y)/\r=s
 | [],r,s,_,_,h=>⟨λ _ h=>(by cases h),by simpa using h⟩
 | y::l,r,s,hf,hg,h=>by
  simp only[a9j,a8p,a8c,a7A,a8Y] at h;have nd:∀ (k:Nat->Int) (r:List UInt8),Qe ((l.flatMap λ y=>32::lq (k y))++(59::r)):=λ k r=>by
   cases l with
   | nil=>exact Qe.c (by decide)
   | cons z l=>simp only[a9j,a8p];exact Qe.c (by decide)
  obtain⟨h1,h2⟩:=Mp _ _ _ _ (Qx (hf y (by simp))).2 (Qx (hg y (by simp))).2 (nd f r) (nd g s) h;obtain⟨h3,h4⟩:=a2C l r s (λ z hz=>hf z (by simp[hz])) (λ z hz=>hg z (by simp[hz])) h2;refine⟨λ z hz=>?_,h4⟩;rcases a7J.1 hz with rfl|q
  .exact Yn (hf z (by simp)) (hg z (by simp)) h1
  .exact h3 z q
def Zr{p:Nat->Prop}{f g:Nat->List UInt8}:∀ (l:List Nat),(∀ t∈l,∀ r s,f t++r=g t++s->p t/\r=s)->l.flatMap f=l.flatMap g->∀ t∈l,p t
 | [],_,_,t,h=>by cases h
 | u::l,hp,h,t,ht=>by
  rw[a9j,a9j] at h;obtain⟨h1,h2⟩:=hp u (by simp) _ _ h;rcases a7J.1 ht with rfl|q
  .exact h1
  .exact Zr l (λ t ht=>hp t (by simp[ht])) h2 t q
def a6h(b c:Bool)(a:U)(out:List Int)(i j t x:Nat)(r s:List UInt8)(h:Vl b++(UQ a out i t x++(59::r))=Vl c++(UQ a out j t x++(59::s))):b=c/\UQ a out i t x++(59::r)=UQ a out j t x++(59::s):=by
 have hd:∀ (i:Nat) (r:List UInt8),∃ u v,UQ a out i t x++(59::r)=u::v/\¬ u=43:=λ i r=>by
  unfold UQ;cases x with
  | zero=>exact⟨_,_,rfl,by decide⟩
  | succ x=>rw[List.range_succ_eq_map];exact⟨_,_,rfl,by decide⟩
 cases b<;>cases c
 .exact⟨rfl,by simpa [Vl] using h⟩
 .obtain⟨u,v,e,hu⟩:=hd i r;simp only[Vl,a9o,a8l,a8p,a8j,b0l] at h;rw[e] at h;simp only[a7A] at h;exact absurd h.1 hu
 .obtain⟨u,v,e,hu⟩:=hd j s;simp only[Vl,a9o,a8l,a8p,a8j,b0l] at h;rw[e] at h;simp only[a7A] at h;exact absurd h.1.symm hu
 .exact⟨rfl,by simpa [Vl] using h⟩
def key_inj{a:U}(ha:rO a){out:List Int}(ho:TO a out){i j:Nat}(hi:i<=nK a)(hj:j<=nK a)(h:jL a out i=jL a out j) :
  out.getD i 0=out.getD j 0/\∀ t,t<mK a->Oz a i t=Oz a j t/\∀ x,x<kK a->out.getD (GB a i t x) 0=out.getD (GB a j t x) 0:=by
 unfold jL at h;simp only[List.append_assoc] at h;obtain⟨h1,h2⟩:=Mp _ _ _ _ (Qx (ho.get hi)).2 (Qx (ho.get hj)).2 (Qe.c (by decide)) (Qe.c (by decide)) h;refine⟨Yn (ho.get hi) (ho.get hj) h1,λ t ht=>?_⟩;have h3:kyA a out i (mK a)=kyA a out j (mK a):=by simpa using h2
 refine Zr (p:=λ t=>Oz a i t=Oz a j t/\∀ x,x<kK a->out.getD (GB a i t x) 0=out.getD (GB a j t x) 0) (List.range (mK a)) (λ t ht r s e=>?_) h3 t (List.mem_range.2 ht);unfold kyR at e;simp only[List.append_assoc,List.cons_append,List.nil_append] at e;obtain⟨e1,e2⟩:=a6h _ _ a out i j t _ _ _ e;have II:=List.mem_range.1 ht;obtain⟨e3,e4⟩:=a2C (List.range (kK a)) _ _ (λ y hy=>ho.get (ha.go II (List.mem_range.1 hy))) (λ y hy=>ho.get (ha.go II (List.mem_range.1 hy))) e2;exact⟨⟨e1,λ x hx=>e3 x (List.mem_range.2 hx)⟩,e4⟩
def a1m{a:U}{out:List Int}{i j:Nat}(h:out.getD i 0=out.getD j 0/\∀ t,t<mK a->Oz a i t=Oz a j t/\∀ x,x<kK a->out.getD (GB a i t x) 0=out.getD (GB a j t x) 0):jL a out i=jL a out j:=by
 have fc:∀ {f g:Nat->List UInt8} (l:List Nat),(∀ t∈l,f t=g t)->l.flatMap f=l.flatMap g:=λ {f g} l=>by
  induction l with
  | nil=>intro _;rfl
  | cons u l ih=>intro h;rw[a9j,a9j,h u (by simp),ih λ t ht=>h t (by simp[ht])]
 unfold jL;rw[h.1];congr 1;refine fc _ λ t ht=>?_;have II:=h.2 t (List.mem_range.1 ht);unfold kyR;rw[II.1];congr 2;exact fc _ λ x hx=>by rw[II.2 x (List.mem_range.1 hx)]
open Go.RowKit Go.Proofs
open Go.RowKit Go.Proofs
structure KyE(a:U)(out:List Int)(w:World)(S:Nat->Prop)(ab ao nb no ob oo:Nat)(b1 o1 p1 b2 o2 p2 b5 o5 p5:Nat):Prop where
 a0:w.cell? ⟨ab,ao,none⟩=some (.int .i64 a.sig.aS)
 a1:w.cell? ⟨ab,ao+1,none⟩=some (.int .i64 a.sig.av)
 a2:w.cell? ⟨ab,ao+2,none⟩=some (.slice (some ⟨b1,o1,none⟩) (nK a) p1)
 a3:w.cell? ⟨ab,ao+3,none⟩=some (.slice (some ⟨b2,o2,none⟩) (nK a) p2)
 n0:w.cell? ⟨nb,no,none⟩=some (.int .i64 (nK a:Int))
 u0:w.cell? ⟨ob,oo,none⟩=some (.slice (some ⟨b5,o5,none⟩) (nK a+1) p5)
 la:ab<w.heap.size
 ln:nb<w.heap.size
 lo:ob<w.heap.size
 s1:S b1
 s2:S b2
 s5:S b5
 r1:cR w S (a.accept.map λ y=>D.slice 1 (y.map λ y=>D.bool y)) b1 o1
 r2:cR w S (a.next.map λ y=>D.slice 1 (y.map λ y=>D.slice 1 (y.map λ y=>D.int .i64 y))) b2 o2
 r5:cR w S (out.map λ y=>D.int .i64 y) b5 o5
end
end Go.Proofs.YtncejbehidimmaaGreatDoor

namespace Go.Proofs.YtncejbehidimmaaGreatDoor
noncomputable section
structure Am where
 n:Nat
 m:Nat
 k:Nat
 ac:Nat->Nat->Bool
 dl:Nat->Nat->Nat->Nat
structure wy(A:Am):Prop where
 sink:∀ a,A.ac A.n a=false
 stay:∀ a x,A.dl A.n a x=A.n
 le:∀ s a x,s<=A.n->A.dl s a x<=A.n
def Am.run(A:Am):Nat->List (Nat×Nat)->Nat
 | s,[]=>s
 | s,p::w=>A.run (A.dl s p.1 p.2) w
def Am.word(A:Am)(w:List (Nat×Nat)):Prop:=∀ p∈w,p.1<A.m/\p.2<A.k
def Am.same(A:Am)(s t:Nat):Prop:=∀ w a,A.word w->a<A.m->A.ac (A.run s w) a=A.ac (A.run t w) a
def Am.eqv(A:Am)(I:Nat->Nat->Prop):Nat->Nat->Nat->Prop
 | 0,s,t=>I s t
 | d+1,s,t=>A.eqv I d s t/\(∀ a,a<A.m->A.ac s a=A.ac t a)/\∀ a x,a<A.m->x<A.k->A.eqv I d (A.dl s a x) (A.dl t a x)
def Am.N4{A:Am}{s t:Nat}(h:A.same s t){a x:Nat}(ha:a<A.m)(hx:x<A.k):A.same (A.dl s a x) (A.dl t a x):=λ w b hw hb =>
 h ((a,x)::w) b (λ p hp=>(a7J.1 hp).elim (λ e=>by rw[e];exact⟨ha,hx⟩) (hw p)) hb
structure Am.XN(A:Am)(I:Nat->Nat->Prop)(R:Nat->Nat->Prop):Prop where
 ini:∀ s t,R s t->I s t
 acc:∀ s t,R s t->∀ a,a<A.m->A.ac s a=A.ac t a
 go:∀ s t,s<=A.n->t<=A.n->R s t->∀ a x,a<A.m->x<A.k->R (A.dl s a x) (A.dl t a x)
def Am.XN.eqv{A:Am}(hA:wy A){I R:Nat->Nat->Prop}(h:A.XN I R):∀ (d:Nat) {s t:Nat},s<=A.n->t<=A.n->R s t->A.eqv I d s t
 | 0,s,t,_,_,q=>h.ini s t q
 | d+1,s,t,hs,ht,q=>⟨h.eqv hA d hs ht q,h.acc s t q,λ a x ha hx=>h.eqv hA d (hA.le s a x hs) (hA.le t a x ht) (h.go s t hs ht q a x ha hx)⟩
def Am.Yw{A:Am}{I:Nat->Nat->Prop}:∀ (d:Nat) {s t:Nat},A.eqv I d s t->I s t
 | 0,_,_,h=>h
 | d+1,_,_,h=>Am.Yw d h.1
def Am.Pv{A:Am}(hA:wy A){I:Nat->Nat->Prop}{d:Nat}(hd:∀ s t,s<=A.n->t<=A.n->A.eqv I d s t->A.eqv I (d+1) s t):∀ (w:List (Nat×Nat)) {s t:Nat},s<=A.n->t<=A.n->A.eqv I d s t->A.word w->∀ a,a<A.m->A.ac (A.run s w) a=A.ac (A.run t w) a
 | [],s,t,hs,ht,h,_,a,ha=>(hd s t hs ht h).2.1 a ha
 | p::w,s,t,hs,ht,h,hw,a,ha=>by
  have hp:=hw p (by simp);exact Am.Pv hA hd w (hA.le s _ _ hs) (hA.le t _ _ ht) ((hd s t hs ht h).2.2 p.1 p.2 hp.1 hp.2) (λ q hq=>hw q (a8y _ hq)) a ha
def Am.Xt(A:Am):A.XN (λ _ _=>True) A.same:=⟨λ _ _ _=>trivial,λ s t h a ha=>h [] a (λ _ hp=>by cases hp) ha,λ s t _ _ h a x ha hx=>Am.N4 h ha hx⟩
def Am.dead(A:Am)(s:Nat):Prop:=∀ w a,A.word w->a<A.m->A.ac (A.run s w) a=false
def Am.Cx{A:Am}(hA:wy A):∀ w,A.run A.n w=A.n
 | []=>rfl
 | p::w=>by unfold Am.run;rw[hA.stay];exact Am.Cx hA w
def Am.WK{A:Am}(hA:wy A)(s:Nat):A.dead s↔A.same s A.n :=
 ⟨λ h w a hw ha=>by rw[h w a hw ha,Am.Cx hA,hA.sink],λ h w a hw ha=>by rw[h w a hw ha,Am.Cx hA,hA.sink]⟩
def ug(c:Nat->Int)(i:Nat):Bool:=(List.range i).all λ j=>decide (¬ c j=c i)
def tL{c:Nat->Int}{i:Nat}:ug c i=true↔∀ j,j<i->¬ c j=c i:=by
 unfold ug;simp only[List.all_eq_true,List.mem_range,decide_eq_true_eq]
def Il(c:Nat->Int)(n:Nat):Nat:=((List.range n).filter (ug c)).length
def VQ{p q:Nat->Bool}:∀ (l:List Nat),(∀ i∈l,p i=true->q i=true)->(l.filter p).length=(l.filter q).length->∀ i∈l,p i=q i
 | [],_,_,i,hi=>by cases hi
 | a::l,h,hl,i,hi=>by
  have hle:∀ l:List Nat,(∀ i∈l,p i=true->q i=true)->(l.filter p).length<=(l.filter q).length:=by
   intro l;induction l with
   | nil=>intro _;simp
   | cons b l ih =>
    intro h;have h2:=ih λ i hi=>h i (a8y _ hi);have h3:=h b (by simp);cases hp:p b<;>cases hq:q b<;>simp_all<;>omega
  have h2:=hle l λ i hi=>h i (a8y _ hi);have h3:=h a (by simp);have key:p a=q a/\(l.filter p).length=(l.filter q).length:=by
   cases hp:p a<;>cases hq:q a<;>simp_all<;>omega
  rcases a7J.1 hi with rfl|hi
  .exact key.1
  .exact VQ l (λ i hi=>h i (a8y _ hi)) key.2 i hi
def Rw(c:Nat->Int):∀ i:Nat,∃ r,r<=i/\c r=c i/\ug c r=true:=by
 intro i;induction i using Nat.strongRecOn with
 | _ i ih =>
  cases h:ug c i with
  | true=>exact⟨i,a7P _,rfl,h⟩
  | false =>
   have:¬ ∀ j,j<i->¬ c j=c i:=λ q=>by rw[tL.2 q] at h;cases h
   have ⟨j,hj⟩:=b0A.1 this;have ⟨hj1,hj2⟩:=b0r.1 hj;have hj2:=Classical.not_not.1 hj2;obtain⟨r,h1,h2,h3⟩:=ih j hj1;exact⟨r,by omega,h2.trans hj2,h3⟩
def Td{c:Nat->Int}{r r':Nat}(h:ug c r=true)(h':ug c r'=true)(e:c r=c r'):r=r':=by
 rcases b0R r r' with q|q|q
 .exact absurd e (tL.1 h' r q)
 .exact q
 .exact absurd e.symm (tL.1 h r' q)
def Yy{c c':Nat->Int}{n:Nat}(hf:∀ s t,s<n->t<n->c' s=c' t->c s=c t)(hn:Il c n=Il c' n){s t:Nat}(hs:s<n)(ht:t<n)(h:c s=c t):c' s=c' t:=by
 have uH:∀ i∈List.range n,ug c i=true->ug c' i=true:=λ i hi hr=>tL.2 λ j hj e=>tL.1 hr j hj (hf j i (by have:=a9i.1 hi;omega) (a9i.1 hi) e);have heq:=VQ (List.range n) uH hn;obtain⟨r,h1,h2,h3⟩:=Rw c' s;obtain⟨r',tY,xd,YG⟩:=Rw c' t;have g:ug c r=true:=by rw[heq r (a9i.2 (by omega))];exact h3
 have g':ug c r'=true:=by rw[heq r' (a9i.2 (by omega))];exact YG
 have e:c r=c r':=(hf r s (by omega) hs h2).trans (h.trans (hf r' t (by omega) ht xd).symm);have:=Td g g' e;rw[<-h2,<-xd,this]
def Yz{c c':Nat->Int}{n:Nat}(hf:∀ s t,s<n->t<n->c' s=c' t->c s=c t):Il c n<=Il c' n:=by
 unfold Il;have:∀ l:List Nat,(∀ i∈l,ug c i=true->ug c' i=true)->(l.filter (ug c)).length<=(l.filter (ug c')).length:=by
  intro l;induction l with
  | nil=>intro _;simp
  | cons b l ih =>
   intro h;have h2:=ih λ i hi=>h i (a8y _ hi);have h3:=h b (by simp);cases hp:ug c b<;>cases hq:ug c' b<;>simp_all<;>omega
 exact this _ λ i hi hr=>tL.2 λ j hj e=>tL.1 hr j hj (hf j i (by have:=a9i.1 hi;omega) (a9i.1 hi) e)
def Am.alike(A:Am)(c:Nat->Int)(s t:Nat):Prop:=c s=c t/\(∀ a,a<A.m->A.ac s a=A.ac t a)/\∀ a x,a<A.m->x<A.k->c (A.dl s a x)=c (A.dl t a x)
def Am.round{A:Am}(hA:wy A){I:Nat->Nat->Prop}{d:Nat}{c c':Nat->Int}(h:∀ s t,s<=A.n->t<=A.n->(c s=c t↔A.eqv I d s t))(hr:∀ s t,s<=A.n->t<=A.n->(c' s=c' t↔A.alike c s t)) :
  ∀ s t,s<=A.n->t<=A.n->(c' s=c' t↔A.eqv I (d+1) s t):=λ s t hs ht=>by
 rw[hr s t hs ht];constructor
 .rintro⟨h1,h2,h3⟩;exact⟨(h s t hs ht).1 h1,h2,λ a x ha hx=>(h _ _ (hA.le s a x hs) (hA.le t a x ht)).1 (h3 a x ha hx)⟩
 .rintro⟨h1,h2,h3⟩;exact⟨(h s t hs ht).2 h1,h2,λ a x ha hx=>(h _ _ (hA.le s a x hs) (hA.le t a x ht)).2 (h3 a x ha hx)⟩
def Am.ended{A:Am}(hA:wy A){I R:Nat->Nat->Prop}(hR:A.XN I R)(hI:∀ s t,s<=A.n->t<=A.n->I s t->A.same s t->R s t){d:Nat}{c c':Nat->Int}(h:∀ s t,s<=A.n->t<=A.n->(c s=c t↔A.eqv I d s t))(h':∀ s t,s<=A.n->t<=A.n->(c' s=c' t↔A.eqv I (d+1) s t))(hn:Il c (A.n+1)=Il c' (A.n+1)) :
  ∀ s t,s<=A.n->t<=A.n->((c s=c t↔R s t)/\(c' s=c' t↔R s t)):=λ s t hs ht=>by
 have bU:∀ s t,s<=A.n->t<=A.n->A.eqv I d s t->A.eqv I (d+1) s t:=λ s t hs ht q =>
  (h' s t hs ht).1 (Yy (n:=A.n+1) (λ s t hs ht e=>(h s t (by omega) (by omega)).2 ((h' s t (by omega) (by omega)).1 e).1) hn (by omega) (by omega) ((h s t hs ht).2 q))
 have key:A.eqv I d s t↔R s t:=⟨λ q=>hI s t hs ht (Am.Yw d q) λ w a hw ha=>Am.Pv hA bU w hs ht q hw a ha,λ q=>hR.eqv hA d hs ht q⟩;exact⟨(h s t hs ht).trans key,(h' s t hs ht).trans ⟨λ q=>key.1 q.1,λ q=>bU s t hs ht (key.2 q)⟩⟩
structure Cut(A B:Am):Prop where
 n:B.n=A.n
 m:B.m=A.m
 k:B.k=A.k
 ac:∀ s a,B.ac s a=A.ac s a
 dl:∀ s a x,s<=A.n->a<A.m->x<A.k->B.dl s a x=A.dl s a x\/(B.dl s a x=A.n/\A.dead (A.dl s a x))
 live:∀ s a x,s<=A.n->a<A.m->x<A.k->B.dl s a x=A.n\/¬ A.dead (B.dl s a x)
def Cut.run{A B:Am}(hA:wy A)(hB:wy B)(h:Cut A B):∀ (w:List (Nat×Nat)) {s:Nat},s<=A.n->A.word w->∀ a,a<A.m->B.ac (B.run s w) a=A.ac (A.run s w) a
 | [],s,_,_,a,_=>h.ac s a
 | p::w,s,hs,hw,a,ha=>by
  have hp:=hw p (by simp);have xj:A.word w:=λ q hq=>hw q (a8y _ hq);show B.ac (B.run (B.dl s p.1 p.2) w) a=A.ac (A.run (A.dl s p.1 p.2) w) a;rcases h.dl s p.1 p.2 hs hp.1 hp.2 with e|⟨e,hd⟩
  .rw[e];exact h.run hA hB w (hA.le s _ _ hs) xj a ha
  .rw[e,hd w a xj ha,<-h.n,Am.Cx hB,hB.sink]
def Cut.same{A B:Am}(hA:wy A)(hB:wy B)(h:Cut A B){s t:Nat}(hs:s<=A.n)(ht:t<=A.n):B.same s t↔A.same s t:=by
 have hw:∀ w,B.word w↔A.word w:=λ w=>by unfold Am.word;rw[h.m,h.k]
 constructor
 .intro q w a xj ha;rw[<-h.run hA hB w hs xj a ha,<-h.run hA hB w ht xj a ha];exact q w a ((hw w).2 xj) (by rw[h.m];exact ha)
 .intro q w a xj ha;have xj:=(hw w).1 xj;rw[h.m] at ha;rw[h.run hA hB w hs xj a ha,h.run hA hB w ht xj a ha];exact q w a xj ha
def Cut.ini{A B:Am}(hA:wy A)(hB:wy B)(h:Cut A B):B.XN (λ s t=>(s=A.n↔t=A.n)) (λ s t=>A.same s t/\(s=A.n↔t=A.n)) where
 ini s t q:=q.2
 acc s t q a ha:=by rw[h.ac,h.ac];exact q.1 [] a (λ _ hp=>by cases hp) (by rw[<-h.m];exact ha)
 go s t hs ht q a x ha hx:=by
  rw[h.n] at hs ht;rw[h.m] at ha;rw[h.k] at hx;have h1:A.same (A.dl s a x) (A.dl t a x):=Am.N4 q.1 ha hx;have hd:A.dead (A.dl s a x)↔A.dead (A.dl t a x):=⟨λ g w b hw hb=>by rw[<-h1 w b hw hb];exact g w b hw hb,λ g w b hw hb=>by rw[h1 w b hw hb];exact g w b hw hb⟩;have dn:A.dead A.n:=(Am.WK hA _).2 λ w a _ _=>rfl;have hS:B.dl s a x=A.n↔A.dead (A.dl s a x):=by
   rcases h.dl s a x hs ha hx with e|⟨e,g⟩
   .rw[e];exact⟨λ g=>by rw[g];exact dn,λ g=>(h.live s a x hs ha hx).elim (λ g=>by rw[<-e];exact g) (λ g2=>absurd (by rw[e];exact g) g2)⟩
   .exact⟨λ _=>g,λ _=>e⟩
  have hT:B.dl t a x=A.n↔A.dead (A.dl t a x):=by
   rcases h.dl t a x ht ha hx with e|⟨e,g⟩
   .rw[e];exact⟨λ g=>by rw[g];exact dn,λ g=>(h.live t a x ht ha hx).elim (λ g=>by rw[<-e];exact g) (λ g2=>absurd (by rw[e];exact g) g2)⟩
   .exact⟨λ _=>g,λ _=>e⟩
  refine⟨?_,hS.trans (hd.trans hT.symm)⟩;rcases h.dl s a x hs ha hx with e|⟨e,g⟩
  .rcases h.dl t a x ht ha hx with e'|⟨e',g'⟩
   .rw[e,e'];exact h1
   .rw[hS.2 (hd.2 g'),e'];exact λ w a _ _=>rfl
  .rw[e,hT.2 (hd.1 g)];exact λ w a _ _=>rfl
def WE(a:U):Am:=⟨nK a,mK a,kK a,Oz a,GB a⟩
def VA{a:U}(h:rO a):wy (WE a):=by
 refine⟨λ t=>?_,λ t x=>?_,λ s t x hs=>?_⟩
 .show Oz a (nK a) t=false;unfold Oz;rw[decide_eq_false (by omega)];rfl
 .show GB a (nK a) t x=nK a;unfold GB;rw[if_neg (by omega)]
 .show GB a s t x<=nK a;by_cases hx:t<mK a/\x<kK a
  .exact h.go hx.1 hx.2
  .unfold GB;split
   .rename_i hsn;have hz:Ll a s t x=0:=by
     unfold Ll;by_cases ht:t<mK a
     .have:=h.a2H hsn ht;rw[a7G,a9Y (by omega)];rfl
     .have:=(h.XZ hsn).2;rw[show (a.next.getD s []).getD t []=[] from by rw[a7G,a9Y (by omega)];rfl];rfl
    rw[hz];simp
   .omega
def KL(a:U)(out:List Int):Nat->List (List UInt8)
 | 0=>[jL a out (nK a)]
 | j+1=>if jL a out j∈KL a out j then KL a out j else KL a out j++[jL a out j]
def Bl(L:List (List UInt8))(k:List UInt8):Nat:=L.findIdx λ y=>decide (y=k)
def UN{L:List (List UInt8)}{k:List UInt8}:Bl L k<L.length↔k∈L:=by
 unfold Bl;rw[List.findIdx_lt_length];constructor
 .rintro⟨y,hy,h⟩;rw[<-a7Z h];exact hy
 .intro h;exact⟨k,h,by simp⟩
def a1j{L M:List (List UInt8)}{k:List UInt8}(h:k∈L):Bl (L++M) k=Bl L k:=by
 have:=UN.2 h;unfold Bl at this ⊢;rw[List.findIdx_append,if_pos this]
def a1k{L:List (List UInt8)}{k l:List UInt8}(hk:k∈L)(h:Bl L k=Bl L l):k=l:=by
 have h1:=UN.2 hk;have h2:Bl L l<L.length:=by omega
 have e1:decide (L[Bl L k]=k)=true:=b0C (p:=λ y=>decide (y=k)) (w:=h1);have e2:decide (L[Bl L l]=l)=true:=b0C (p:=λ y=>decide (y=l)) (w:=h2);have e3:L[Bl L k]=L[Bl L l]:=by simp[h]
 rw[<-a7Z e1,e3,a7Z e2]
def a4r(a:U)(out:List Int)(j:Nat):jL a out j∈KL a out (j+1):=by
 unfold KL;split
 .assumption
 .simp
def Qd(a:U)(out:List Int)(j:Nat):∀ i,∃ M,KL a out (j+i)=KL a out j++M
 | 0=>⟨[],by simp⟩
 | i+1=>by
  obtain⟨M,hM⟩:=Qd a out j i;rw[<-b0f,KL];split
  .exact⟨M,hM⟩
  .exact⟨M++[jL a out (j+i)],by rw[hM,a8c]⟩
def a3d(a:U)(out:List Int){i j:Nat}(h:i<j):jL a out i∈KL a out j:=by
 obtain⟨M,hM⟩:=Qd a out (i+1) (j - (i+1));rw[show i+1+(j - (i+1))=j by omega] at hM;rw[hM];exact a9g _ (a4r a out i)
def XO(a:U)(out:List Int)(j:Nat):jL a out (nK a)∈KL a out j/\Bl (KL a out j) (jL a out (nK a))=0/\1<=(KL a out j).length:=by
 obtain⟨M,hM⟩:=Qd a out 0 j;rw[a8W] at hM;have h0:jL a out (nK a)∈KL a out 0:=by simp[KL]
 rw[hM];refine⟨a9g _ h0,?_,by simp[KL]⟩;rw[a1j h0];simp[KL,Bl]
def Qb(a:U)(out:List Int):∀ j,(KL a out j).length<=j+1
 | 0=>by simp[KL]
 | j+1=>by
  have:=Qb a out j;rw[KL];split
  .omega
  .simp;omega
def ZO(a:U)(out:List Int)(j:Nat):List Int:=(List.range (nK a+1)).map λ i=>if i<j then (Bl (KL a out (nK a)) (jL a out i):Int) else 0
def ZP(a:U)(out:List Int)(j:Nat):(ZO a out j).length=nK a+1:=by simp[ZO]
abbrev Ap(a:U)(out:List Int):List Int:=ZO a out (nK a)
abbrev Kv(a:U)(out:List Int):Nat:=(KL a out (nK a)).length
def Mk(a:U):Nat->List Int->Nat->List Int
 | 0,out,_=>out
 | f+1,out,count=>if Kv a out=count then Ap a out else Mk a f (Ap a out) (Kv a out)
def clP(a:U):List Int:=Mk a 70 (List.replicate (nK a+1) (0:Int)) 0
def S9{a:U}{out:List Int}{i:Nat}(hi:i<=nK a):(Ap a out).getD i 0=if i<nK a then (Bl (KL a out (nK a)) (jL a out i):Int) else 0:=by
 unfold Ap ZO;rw[List.getD_eq_getElem?_getD,List.getElem?_map,List.getElem?_range (by omega)];rfl
def Ta{a:U}{out:List Int}{i:Nat}(hi:i<=nK a):(Ap a out).getD i 0=(Bl (KL a out (nK a)) (jL a out i):Int):=by
 rw[S9 hi];by_cases h:i<nK a
 .rw[a7E h]
 .rw[a7z h,show i=nK a by omega,(XO a out (nK a)).2.1];rfl
def Qc(a:U)(out:List Int){i:Nat}(hi:i<=nK a):jL a out i∈KL a out (nK a):=by
 rcases a8m i (nK a) with h|h
 .exact a3d a out h
 .rw[show i=nK a by omega];exact (XO a out _).1
def Wf{a:U}{out:List Int}{i j:Nat}(hi:i<=nK a)(hj:j<=nK a):(Ap a out).getD i 0=(Ap a out).getD j 0↔jL a out i=jL a out j:=by
 rw[Ta hi,Ta hj];constructor
 .intro h;exact a1k (Qc a out hi) (by omega)
 .intro h;rw[h]
def Wg{a:U}(h:rO a)(out:List Int):TO a (Ap a out):=by
 refine⟨ZP a out _,λ v hv=>?_⟩;unfold Ap ZO at hv;obtain⟨i,hi,rfl⟩:=List.mem_map.1 hv;have hi:=List.mem_range.1 hi;split
 .have:=UN.2 (Qc a out (show i<=nK a by omega));have:=Qb a out (nK a);have h6:nK a<=60:=h.n60;omega
 .omega
def Vd{a:U}(h:rO a){out:List Int}(ho:TO a out){i j:Nat}(hi:i<=nK a)(hj:j<=nK a):(Ap a out).getD i 0=(Ap a out).getD j 0↔(WE a).alike (λ s=>out.getD s 0) i j:=by
 rw[Wf hi hj];constructor
 .intro e;obtain⟨h1,h2⟩:=key_inj h ho hi hj e;exact⟨h1,λ t ht=>(h2 t ht).1,λ t x ht hx=>(h2 t ht).2 x hx⟩
 .rintro⟨h1,h2,h3⟩;exact a1m ⟨h1,λ t ht=>⟨h2 t ht,λ x hx=>h3 t x ht hx⟩⟩
def Yl{α:Type}{c:Nat->Int}{N:Nat}{f:Nat->α}{L:List α}(hL:L.Nodup)(h1:∀ i,i<N->f i∈L)(h2:∀ y∈L,∃ i,i<N/\f i=y)(h3:∀ i j,i<N->j<N->(c i=c j↔f i=f j)):Il c N=L.length:=by
 unfold Il;have hR:∀ i∈(List.range N).filter (ug c),i<N/\ug c i=true:=λ i hi=>by
  rw[a8E,a9i] at hi;exact hi
 have cX:(((List.range N).filter (ug c)).map f).Nodup:=by
  unfold List.Nodup;rw[List.pairwise_map];have hp:=(List.nodup_range (n:=N)).filter (ug c);refine List.Pairwise.imp_of_mem (λ {i j} hi hj qi e=>?_) hp;obtain⟨i1,i2⟩:=hR i hi;obtain⟨j1,j2⟩:=hR j hj;exact qi (Td i2 j2 ((h3 i j i1 j1).2 e))
 apply Nat.le_antisymm
 .have:=cX.length_le_of_subset (l₂:=L) (λ y hy=>by
   obtain⟨i,hi,rfl⟩:=a7B.1 hy;exact h1 i (hR i hi).1)
  simpa using this
 .have:=hL.length_le_of_subset (l₂:=((List.range N).filter (ug c)).map f) (λ y hy=>by
   obtain⟨i,hi,rfl⟩:=h2 y hy;obtain⟨r,r1,r2,r3⟩:=Rw c i;refine a7B.2 ⟨r,?_,(h3 r i (by omega) hi).1 r2⟩;rw[a8E,a9i];exact⟨by omega,r3⟩)
  simpa using this
def H2(a:U)(out:List Int):∀ j,(KL a out j).Nodup
 | 0=>by simp[KL]
 | j+1=>by
  rw[KL];split
  .exact H2 a out j
  .rename_i h;refine b0y.2 ⟨H2 a out j,by simp,λ x hx y hy=>?_⟩;rw[a7O] at hy;subst hy;exact λ e=>h (e ▸ hx)
def LR(a:U)(out:List Int):∀ j,j<=nK a->∀ y∈KL a out j,∃ i,i<nK a+1/\jL a out i=y
 | 0,_,y,hy=>by
  simp only[KL,a7O] at hy;exact⟨nK a,by omega,hy.symm⟩
 | j+1,hj,y,hy=>by
  rw[KL] at hy;split at hy
  .exact LR a out j (by omega) y hy
  .rcases a7y.1 hy with q|q
   .exact LR a out j (by omega) y q
   .rw[a7O] at q;exact⟨j,by omega,q.symm⟩
def Qr(a:U)(out:List Int):Il (λ s=>(Ap a out).getD s 0) (nK a+1)=Kv a out :=
 Yl (f:=jL a out) (H2 a out _) (λ i hi=>Qc a out (by omega)) (LR a out _ (a7P _)) λ i j hi hj=>Wf (by omega) (by omega)
structure CP(a:U)(d:Nat)(out:List Int)(count:Nat):Prop where
 ok:rO a
 eq:Mk a (70 - d) out count=clP a
 dc:d<=count
 cn:count<=61
 o:TO a out
 lab:∀ s t,s<=nK a->t<=nK a->(out.getD s 0=out.getD t 0↔(WE a).eqv (λ _ _=>True) d s t)
 aZ:d=0/\count=0\/count=Il (λ s=>out.getD s 0) (nK a+1)
 z:out.getD (nK a) 0=0
def NW(n i:Nat):(List.replicate n (0:Int)).getD i 0=0:=by
 rw[a7G,List.getElem?_replicate];split<;>rfl
def CP.first{a:U}(h:rO a):CP a 0 (List.replicate (nK a+1) (0:Int)) 0 :=
 ⟨h,rfl,a7P _,by omega,⟨by simp,λ v hv=>by rw[b0Z hv];omega⟩,λ s t _ _=>by rw[NW,NW];exact⟨λ _=>trivial,λ _=>rfl⟩, .inl ⟨rfl,rfl⟩,NW _ _⟩
def CP.Zs{a:U}{d:Nat}{out:List Int}{count:Nat}(h:CP a d out count):∀ s t,s<=nK a->t<=nK a->((Ap a out).getD s 0=(Ap a out).getD t 0↔(WE a).eqv (λ _ _=>True) (d+1) s t) :=
 Am.round (VA h.ok) h.lab λ _ _ hs ht=>Vd h.ok h.o hs ht
def Z4(a:U)(out:List Int):(Ap a out).getD (nK a) 0=0:=by rw[S9 (a7P _),a7z (by omega)]
def CP.up{a:U}{d:Nat}{out:List Int}{count:Nat}(h:CP a d out count):count<=Kv a out:=by
 rcases h.aZ with ⟨_,e⟩|e
 .omega
 .rw[e,<-Qr];exact Yz λ s t hs ht q=>(h.lab s t (by omega) (by omega)).2 ((h.Zs s t (by omega) (by omega)).1 q).1
def CP.next{a:U}{d:Nat}{out:List Int}{count:Nat}(h:CP a d out count)(hn:¬ Kv a out=count):CP a (d+1) (Ap a out) (Kv a out):=by
 have:=h.up;have:=h.dc;have:=h.cn;have hl:Kv a out<=nK a+1:=Qb a out (nK a);have h6:nK a<=60:=h.ok.n60;refine⟨h.ok,?_,by omega,by omega,Wg h.ok out,h.Zs, .inr (Qr a out).symm,Z4 a out⟩;rw[<-h.eq,show 70 - d=(70 - (d+1))+1 by omega,Mk,a7z hn]
def CP.less{a:U}{d:Nat}{out:List Int}{count:Nat}(h:CP a d out count)(hn:¬ Kv a out=count):70 - Kv a out<70 - count:=by
 have:=h.up;have:=h.cn;have hl:Kv a out<=nK a+1:=Qb a out (nK a);have h6:nK a<=60:=h.ok.n60;omega
structure a4p(a:U)(out:List Int):Prop where
 o:TO a out
 lab:∀ s t,s<=nK a->t<=nK a->(out.getD s 0=out.getD t 0↔(WE a).same s t)
 z:out.getD (nK a) 0=0
def CP.done{a:U}{d:Nat}{out:List Int}{count:Nat}(h:CP a d out count)(hn:Kv a out=count):Ap a out=clP a/\a4p a (Ap a out):=by
 have hp:1<=Kv a out:=(XO a out (nK a)).2.2;have h1:=h.dc;have h2:=h.cn;refine⟨?_,Wg h.ok out,?_,Z4 a out⟩
 .rw[<-h.eq,show 70 - d=(70 - (d+1))+1 by omega,Mk,a7E hn]
 .rcases h.aZ with ⟨_,e⟩|e
  .omega
  .intro s t hs ht;exact (Am.ended (VA h.ok) (Am.Xt (WE a)) (λ _ _ _ _ _ q=>q) h.lab h.Zs (by show Il _ (nK a+1)=Il _ (nK a+1);rw[Qr,hn,e]) s t hs ht).2
def R6(c:List Int)(s:Int):Int:=if s<0 then -1 else c.getD s.toNat 0
structure TP(xs ys:List Bool)(k:Nat):Prop where
 hl:xs.length=ys.length
 hk:k<=xs.length
 he:∀ i,i<k->xs.getD i false=ys.getD i false
def TP.first{xs ys:List Bool}(h:(xs.length:Int)=(ys.length:Int)):TP xs ys 0:=⟨by omega,by omega,λ i hi=>by omega⟩
def TP.next{xs ys:List Bool}{k:Nat}(h:TP xs ys k)(hk:k<xs.length)(e:xs.getD k false=ys.getD k false):TP xs ys (k+1):=⟨h.hl,hk,λ i hi=>by
 rcases a8m i k with q|q
 .exact h.he i q
 .rw[show i=k by omega];exact e⟩
def TP.done{xs ys:List Bool}{k:Nat}(h:TP xs ys k)(hk:¬ k<xs.length):true=decide (xs=ys):=by
 rw[decide_eq_true];refine b1i h.hl λ i h1 h2=>?_;have:=h.he i (by have:=h.hk;omega);rw[a7G,a7G,a7L h1,a7L h2] at this;exact this
def alP(a:U)(c:List Int)(s t:Nat):Prop:=a.accept.getD s []=a.accept.getD t []/\∀ i,i<mK a->∀ x,x<kK a->R6 c (Ll a s i x)=R6 c (Ll a t i x)
noncomputable def WD(a:U)(c:List Int)(s t:Nat):Bool:=by
 classical exact decide (alP a c s t)
def a4w{a:U}{c:List Int}{s t:Nat}(h:alP a c s t):true=WD a c s t:=by unfold WD;simp[h]
def a4u{a:U}{c:List Int}{s t:Nat}(h:¬ alP a c s t):false=WD a c s t:=by unfold WD;simp[h]
structure Wy(a:U)(c:List Int)(s t i x:Nat):Prop where
 ha:a.accept.getD s []=a.accept.getD t []
 hi:i<=mK a
 hx:x<=kK a
 hr:∀ j,j<i->∀ y,y<kK a->R6 c (Ll a s j y)=R6 c (Ll a t j y)
 hq:∀ y,y<x->R6 c (Ll a s i y)=R6 c (Ll a t i y)
def Wy.first{a:U}{c:List Int}{s t:Nat}(h:a.accept.getD s []=a.accept.getD t []):Wy a c s t 0 0:=⟨h,by omega,by omega,λ i hi=>by omega,λ i hi=>by omega⟩
def Wy.done{a:U}{c:List Int}{s t i x:Nat}(h:Wy a c s t i x)(hi:¬ i<mK a):true=WD a c s t:=a4w ⟨h.ha,λ j hj y hy=>h.hr j (by omega) y hy⟩
def Wy.no{a:U}{c:List Int}{s t i x:Nat}(_h:Wy a c s t i x)(hi:i<mK a)(hx:x<kK a)(e:¬ R6 c (((a.next.getD s []).getD i []).getD x 0)=R6 c (((a.next.getD t []).getD i []).getD x 0)):false=WD a c s t:=a4u λ q=>e (q.2 i hi x hx)
structure AlK(a:U)(c:List Int)(s t:Int):Prop where
 ha:rO a
 hc:c.length=nK a
 hs:0<=s/\s<nK a
 ht:0<=t/\t<nK a
structure RwL(a:U)(s i:Nat):Prop where
 n:nK a<=60/\a.accept.length<=60
 nx:a.next.length=nK a
 m:mK a<=8
 k:kK a<=4
 ac:s<nK a->(a.accept.getD s []).length=mK a
 r:s<nK a->(a.next.getD s []).length=mK a
 rr:s<nK a->i<mK a->((a.next.getD s []).getD i []).length=kK a
def rO.rwl{a:U}(h:rO a)(s i:Nat):RwL a s i:=⟨⟨h.n60,h.n60⟩,h.nx,h.lens.2.1,h.lens.2.2.1,λ hs=>(h.XZ hs).1,λ hs=>(h.XZ hs).2,λ hs hi=>h.a2H hs hi⟩
def fY(a:U)(s t x:Int):Int:=if s<0 then -1 else ((a.next.getD s.toNat []).getD t.toNat []).getD x.toNat 0
def me(a:U)(s t:Int):Bool:=if 0<=s then (a.accept.getD s.toNat []).getD t.toNat false else false
def a2J{a:U}{s t x:Int}(h:s<0) : -1=fY a s t x:=by rw[fY,a7E h]
def a2I{a:U}{s t x:Int}(h:¬ s<0):((a.next.getD s.toNat []).getD t.toNat []).getD x.toNat 0=fY a s t x:=by rw[fY,a7z h]
def a2n{a:U}{s t:Int}(h:0<=s):(a.accept.getD s.toNat []).getD t.toNat false=me a s t:=by rw[me,a7E h]
def VU{a:U}{s t:Int}(h:¬ 0<=s):false=me a s t:=by rw[me,a7z h]
structure FF(a:U)(s t:Int):Prop where
 ha:rO a
 s0 : -1<=s
 s1:s<(nK a:Int)
 t0:0<=t
 t1:t<(mK a:Int)
structure Aw(a:U)(s t x:Int):Prop where
 h:FF a s t
 x0:0<=x
 x1:x<(kK a:Int)
def Rp{a:U}{s t x:Int}(h:Aw a s t x) : -1<=fY a s t x/\fY a s t x<(nK a:Int):=by
 have h1:=h.h.s0;have h2:=h.h.s1;have h3:=h.h.t0;have h4:=h.h.t1;have h5:=h.x0;have h6:=h.x1;unfold fY;split
 .omega
 .exact h.h.ha.row (by omega) (by omega) (by omega)
def Va(a b:U)(p:ar)(t x:Nat):ar:=ar.mk (fY a p.a0 (t:Int) (x:Int)) (fY b p.a1 (t:Int) (x:Int))
def Vb(a b:U)(p:ar)(i t x:Nat):ae:=ae.mk (Va a b p t x) (i:Int) (t:Int) (x:Int)
def kU(ls:List ae)(q:ar):Bool:=ls.any λ r=>decide (r.pair.a0=q.a0)&&decide (r.pair.a1=q.a1)
def BT(q:ar):Bool:=decide (q.a0<0)&&decide (q.a1<0)
def Hy(ls:List ae)(q:ae):List ae:=if BT q.pair=true\/kU ls q.pair=true then ls else ls++[q]
def cD(a b:U)(p:ar)(i t:Nat)(ls:List ae):Nat->List ae
 | 0=>ls
 | x+1=>Hy (cD a b p i t ls x) (Vb a b p i t x)
def cq(a b:U)(p:ar)(i:Nat)(ls:List ae):Nat->List ae
 | 0=>ls
 | t+1=>cD a b p i t (cq a b p i ls t) (kK a)
def aF(a b:U):Nat->List ae
 | 0=>[ae.mk (ar.mk (0:Int) (0:Int)) (-1:Int) (0:Int) (0:Int)]
 | i+1=>if i<(aF a b i).length then cq a b ((aF a b i).getD i (ae.mk (ar.mk (0:Int) (0:Int)) (0:Int) (0:Int) (0:Int))).pair i (aF a b i) (mK a) else aF a b i
noncomputable def cQ(a b:U):List ae:=aF a b (3722+nK a)
def rJ{ls:List ae}{q:ar}:kU ls q=true↔∃ r∈ls,r.pair=q:=by
 unfold kU;rw[List.any_eq_true];constructor
 .rintro⟨r,h1,h2⟩;simp only[a7H,a7D] at h2;refine⟨r,h1,?_⟩;obtain⟨⟨p0,p1⟩,_,_,_⟩:=r;obtain⟨q0,q1⟩:=q;simp only at h2 ⊢;rw[h2.1,h2.2]
 .rintro⟨r,h1,rfl⟩;exact⟨r,h1,by simp⟩
structure AB(a b:U):Prop where
 ka:rO a
 kb:rO b
 ks:b.sig=a.sig
def AB.sw{a b:U}(h:AB a b):AB b a:=⟨h.kb,h.ka,h.ks.symm⟩
structure LU(a b:U)(ls:List ae):Prop where
 pos:0<ls.length
 fE:∀ r∈ls,(-1<=r.pair.a0/\r.pair.a0<(nK a:Int))/\(-1<=r.pair.a1/\r.pair.a1<(nK b:Int))
 nd:(ls.map ae.pair).Nodup
 mJ:∀ j,j<ls.length -> -1<=(ls.getD j (ae.mk (ar.mk (0:Int) (0:Int)) (0:Int) (0:Int) (0:Int))).mJ/\(ls.getD j (ae.mk (ar.mk (0:Int) (0:Int)) (0:Int) (0:Int) (0:Int))).mJ<(j:Int)
def LU.lu{a b:U}{ls:List ae}(h:LU a b ls)(Bb:AB a b):ls.length<=3721:=by
 have ha:=Bb.ka.n60;have hb:=Bb.kb.n60;let f:ar->Nat:=λ q=>(q.a0+1).toNat * 61+(q.a1+1).toNat;have h1:((ls.map ae.pair).map f).Nodup:=by
  have:=h.nd;unfold List.Nodup at this ⊢;rw[List.pairwise_map];refine List.Pairwise.imp_of_mem (λ {x y} hx hy q e=>q ?_) this;obtain⟨r,hr,rfl⟩:=List.mem_map.1 hx;obtain⟨r',Zf,rfl⟩:=List.mem_map.1 hy;have k1:=h.fE r hr;have k2:=h.fE r' Zf;simp only[nK] at k1 k2;simp only[f] at e;obtain⟨⟨p0,p1⟩,_,_,_⟩:=r;obtain⟨⟨q0,q1⟩,_,_,_⟩:=r';simp only at e k1 k2 ⊢;have:p0=q0/\p1=q1:=by omega
  rw[this.1,this.2]
 have:=h1.length_le_of_subset (l₂:=List.range 3721) λ y hy=>by
  obtain⟨q,hq,rfl⟩:=a7B.1 hy;obtain⟨r,hr,rfl⟩:=a7B.1 hq;have k1:=h.fE r hr;simp only[nK] at k1;rw[a9i];simp only[f];omega
 simpa using this
def a1z{ls:List ae}{q:ae}{j:Nat}:j<(ls++[q]).length->(j<ls.length/\(ls++[q]).getD j (ae.mk (ar.mk (0:Int) (0:Int)) (0:Int) (0:Int) (0:Int))=ls.getD j (ae.mk (ar.mk (0:Int) (0:Int)) (0:Int) (0:Int) (0:Int)))\/(j=ls.length/\(ls++[q]).getD j (ae.mk (ar.mk (0:Int) (0:Int)) (0:Int) (0:Int) (0:Int))=q):=λ h=>by
 simp only[a7K,a7I,a7T] at h;rcases a8m j ls.length with r|r
 .exact .inl ⟨r,by simp only[a7G,a8H r]⟩
 .have:j=ls.length:=by omega
  subst this;exact .inr ⟨rfl,by simp[a7G]⟩
def Z3{ls:List ae}{q:ae}(h:BT q.pair=true\/kU ls q.pair=true):ls=Hy ls q:=by rw[Hy,a7E h]
def Z1{ls:List ae}{q:ae}(h:¬ (BT q.pair=true\/kU ls q.pair=true)):ls++[q]=Hy ls q:=by rw[Hy,a7z h]
def Z0(ls:List ae)(q:ae):ls.length<=(Hy ls q).length:=by unfold Hy;split<;>simp
def a1y{a b:U}{ls:List ae}(h:LU a b ls){q:ae}(h1:(-1<=q.pair.a0/\q.pair.a0<(nK a:Int))/\(-1<=q.pair.a1/\q.pair.a1<(nK b:Int)))(h2 : -1<=q.mJ/\q.mJ<(ls.length:Int)):LU a b (Hy ls q):=by
 unfold Hy;split
 .exact h
 .rename_i w;rw[not_or] at w;refine⟨by simp,λ r hr=>?_,?_,λ j hj=>?_⟩
  .rcases a7y.1 hr with r'|r'
   .exact h.fE r r'
   .rw[a7O] at r';rw[r'];exact h1
  .rw[a8R];refine b0y.2 ⟨h.nd,by simp,λ x hx y hy=>?_⟩;rw[a8d,a9h,a7O] at hy;subst hy;obtain⟨r,hr,rfl⟩:=a7B.1 hx;exact λ e=>w.2 (rJ.2 ⟨r,hr,e⟩)
  .rcases a1z hj with ⟨k1,k2⟩|⟨k1,k2⟩
   .rw[k2];exact h.mJ j k1
   .rw[k2,k1];exact h2
structure RcX(a b:U)(ls q:List ae):Prop where
 g:LU a b q
 up:ls.length<=q.length
 pre:∀ j,j<ls.length->q.getD j (ae.mk (ar.mk (0:Int) (0:Int)) (0:Int) (0:Int) (0:Int))=ls.getD j (ae.mk (ar.mk (0:Int) (0:Int)) (0:Int) (0:Int) (0:Int))
def Z2(ls:List ae)(q:ae){j:Nat}(h:j<ls.length):(Hy ls q).getD j (ae.mk (ar.mk (0:Int) (0:Int)) (0:Int) (0:Int) (0:Int))=ls.getD j (ae.mk (ar.mk (0:Int) (0:Int)) (0:Int) (0:Int) (0:Int)):=by
 unfold Hy;split
 .rfl
 .simp only[a7G,a8H h]
def We{a b:U}(h:AB a b){p:ar}(hp:(-1<=p.a0/\p.a0<(nK a:Int))/\(-1<=p.a1/\p.a1<(nK b:Int))){t x:Nat}(ht:t<mK a)(hx:x<kK a):Aw a p.a0 (t:Int) (x:Int)/\Aw b p.a1 (t:Int) (x:Int):=by
 have e1:mK b=mK a:=by simp only[mK,h.ks]
 have e2:kK b=kK a:=by simp only[kK,h.ks]
 exact⟨⟨⟨h.ka,hp.1.1,hp.1.2,by omega,by omega⟩,by omega,by omega⟩,⟨⟨h.kb,hp.2.1,hp.2.2,by omega,by omega⟩,by omega,by omega⟩⟩
def LH{a b:U}(h:AB a b){p:ar}(hp:(-1<=p.a0/\p.a0<(nK a:Int))/\(-1<=p.a1/\p.a1<(nK b:Int))){i t:Nat}(ht:t<mK a){ls:List ae}(hg:LU a b ls)(hi:i<ls.length):∀ x,x<=kK a->RcX a b ls (cD a b p i t ls x)
 | 0,_=>⟨hg,a7P _,λ _ _=>rfl⟩
 | x+1,hx=>by
  have q:=LH h hp ht hg hi x (by omega);have r:=We h hp ht (show x<kK a by omega);have u:=q.up;rw[cD];exact⟨a1y q.g ⟨Rp r.1,Rp r.2⟩ (by simp only[Vb];omega),a8M u (Z0 _ _),λ j hj=>(Z2 _ _ (by omega)).trans (q.pre j hj)⟩
def Cw{a b:U}(h:AB a b){p:ar}(hp:(-1<=p.a0/\p.a0<(nK a:Int))/\(-1<=p.a1/\p.a1<(nK b:Int))){i:Nat}{ls:List ae}(hg:LU a b ls)(hi:i<ls.length):∀ t,t<=mK a->RcX a b ls (cq a b p i ls t)
 | 0,_=>⟨hg,a7P _,λ _ _=>rfl⟩
 | t+1,ht=>by
  have q:=Cw h hp hg hi t (by omega);have u:=q.up;have r:=LH h hp (show t<mK a by omega) q.g (show i<(cq a b p i ls t).length by omega) (kK a) (a7P _);rw[cq];exact⟨r.g,a8M u r.up,λ j hj=>(r.pre j (by omega)).trans (q.pre j hj)⟩
def LU.get{a b:U}{ls:List ae}(h:LU a b ls){i:Nat}(hi:i<ls.length):(-1<=(ls.getD i (ae.mk (ar.mk (0:Int) (0:Int)) (0:Int) (0:Int) (0:Int))).pair.a0/\(ls.getD i (ae.mk (ar.mk (0:Int) (0:Int)) (0:Int) (0:Int) (0:Int))).pair.a0<(nK a:Int))/\(-1<=(ls.getD i (ae.mk (ar.mk (0:Int) (0:Int)) (0:Int) (0:Int) (0:Int))).pair.a1/\(ls.getD i (ae.mk (ar.mk (0:Int) (0:Int)) (0:Int) (0:Int) (0:Int))).pair.a1<(nK b:Int)):=h.fE _ (mV hi)
def jv{a b:U}(h:AB a b):∀ i,LU a b (aF a b i)
 | 0=>⟨by simp[aF],λ r hr=>by
   have:=h.ka.n1;have:=h.kb.n1;simp only[aF,a7O] at hr;subst hr;simp only[nK];omega,by simp[aF],λ j hj=>by
   simp only[aF,a7I,a7T] at hj;have:j=0:=by omega
   subst this;simp[aF]⟩
 | i+1=>by
  have q:=jv h i;rw[aF];split
  .rename_i hi;exact (Cw h (q.get hi) q hi (mK a) (a7P _)).g
  .exact q
def Wd{a b:U}(h:AB a b){i:Nat}(hi:i<(aF a b i).length):i+1<=(aF a b (i+1)).length:=by
 have q:=jv h i;have:=(Cw h (q.get hi) q hi (mK a) (a7P _)).up;rw[aF,a7E hi];omega
def Cv{a b:U}{i:Nat}(hi:¬ i<(aF a b i).length):∀ j,aF a b (i+j)=aF a b i
 | 0=>rfl
 | j+1=>by
  have e:=Cv hi j;rw[<-b0f,aF,e,a7z (by omega)]
def NT{a b:U}{i:Nat}(hi:¬ i<(aF a b i).length)(h6:i<=3721):aF a b i=cQ a b:=by
 have e:=Cv hi (3722+nK a - i);rw[show i+(3722+nK a - i)=3722+nK a by omega] at e;unfold cQ;exact e.symm
def LG{a b:U}(h:AB a b):LU a b (cQ a b):=jv h _
def Aq(r:ae):ae:=ae.mk (ar.mk r.pair.a1 r.pair.a0) r.mJ r.atom r.act
def a4h(ls:List ae)(q:ar):kU (ls.map Aq) (ar.mk q.a1 q.a0)=kU ls q:=by
 unfold kU;rw[List.any_map];congr 1;funext r;exact Bool.and_comm _ _
def a6n(ls:List ae)(q:ae):Hy (ls.map Aq) (Aq q)=(Hy ls q).map Aq:=by
 unfold Hy;have e1:BT (Aq q).pair=BT q.pair:=Bool.and_comm _ _;have e2:kU (ls.map Aq) (Aq q).pair=kU ls q.pair:=a4h ls q.pair;rw[e1,e2];split<;>simp
def a2W(a b:U)(h:b.sig=a.sig)(p:ar)(i t:Nat)(ls:List ae):∀ x,cD b a (ar.mk p.a1 p.a0) i t (ls.map Aq) x=(cD a b p i t ls x).map Aq
 | 0=>rfl
 | x+1=>by
  rw[cD,cD,a2W a b h p i t ls x,<-a6n];rfl
def a2V(a b:U)(h:b.sig=a.sig)(p:ar)(i:Nat)(ls:List ae):∀ t,cq b a (ar.mk p.a1 p.a0) i (ls.map Aq) t=(cq a b p i ls t).map Aq
 | 0=>rfl
 | t+1=>by
  have e:kK b=kK a:=by simp only[kK,h]
  rw[cq,cq,a2V a b h p i ls t,a2W a b h,e]
def a2U(a b:U)(h:b.sig=a.sig):∀ i,aF b a i=(aF a b i).map Aq
 | 0=>rfl
 | i+1=>by
  have e:mK b=mK a:=by simp only[mK,h]
  rw[aF,aF,a2U a b h i,a8n];by_cases hi:i<(aF a b i).length
  .rw[a7E hi,a7E hi];have e2:(((aF a b i).map Aq).getD i (ae.mk (ar.mk (0:Int) (0:Int)) (0:Int) (0:Int) (0:Int))).pair=ar.mk ((aF a b i).getD i (ae.mk (ar.mk (0:Int) (0:Int)) (0:Int) (0:Int) (0:Int))).pair.a1 ((aF a b i).getD i (ae.mk (ar.mk (0:Int) (0:Int)) (0:Int) (0:Int) (0:Int))).pair.a0:=by
    simp only[a7G,a8T,a7L hi];rfl
   rw[e2,a2V a b h,e]
  .rw[a7z hi,a7z hi]
def a6m{a b:U}(h:AB a b):cQ b a=(cQ a b).map Aq:=by
 have f:=(jv h 3722).lu h;have q:¬ 3722<(aF a b 3722).length:=by omega
 have e1:aF a b (3722+nK b)=aF a b 3722:=Cv q _;have e2:aF a b (3722+nK a)=aF a b 3722:=Cv q _;unfold cQ;rw[a2U a b h.ks,e1,e2]
def eY(ls:List ae)(q:ar):Option Bool:=if kU ls q=true\/(q.a0 = -1/\q.a1 = -1) then some true else none
def V6{ls:List ae}{q:ar}(h : -1<=q.a0 /\ -1<=q.a1):Option.getD (eY ls q) false=true↔BT q=true\/kU ls q=true:=by
 unfold eY BT;simp only[Bool.and_eq_true,decide_eq_true_eq];split
 .rename_i w;simp only[a9M,true_iff];exact w.elim .inr λ w => .inl (by omega)
 .rename_i w;rw[not_or] at w;simp only[Option.getD_none,a8j,false_iff];rintro (q'|q')
  .exact w.2 (by omega)
  .exact w.1 q'
def PY(ls:List ae)(r:ae)(q:ar):kU (ls++[r]) q=true↔kU ls q=true\/r.pair=q:=by
 rw[rJ,rJ];simp only[a7y,a7O];constructor
 .rintro⟨x,h|h,e⟩
  .exact .inl ⟨x,h,e⟩
  .exact .inr (h ▸ e)
 .rintro (⟨x,h,e⟩|h)
  .exact⟨x, .inl h,e⟩
  .exact⟨r, .inr rfl,h⟩
def ZG(ls:List ae)(r:ae):eL (eY ls) r.pair true=eY (ls++[r]):=by
 funext q;by_cases h:q=r.pair
 .subst h;rw[ou,eY,a7E (.inl ((PY _ _ _).2 (.inr rfl)))]
 .rw[iw _ _ _ h];unfold eY;have:kU (ls++[r]) q=true↔kU ls q=true:=by
   rw[PY];exact⟨λ w=>w.elim id λ e=>absurd e.symm h, .inl⟩
  simp only[this]
def ZF{ls:List ae}{q:ar}(h:¬ Option.getD (eY ls q) false=true)(n:Nat):fK (eY ls q) n=n+1:=by
 unfold eY at h ⊢;split
 .rename_i w;rw[a7E w] at h;exact absurd rfl h
 .rfl
def Bq:aW:=⟨BE,[.v (.st .automaton), .v (.int .i64), .v (.int .i64), .v (.int .i64)],λ (a:U) (s:Int) (t:Int) (x:Int)=>⟨(some (Aw a s t x),[⟨(.int .i64),fY a s t x⟩])⟩⟩
def Nf(a:U)(s:Int)(t:Int)(x:Int):Nat->aL:=cB
def GD:aW.Good Bq:=by
 refine⟨aD yU,?_⟩;intro (a:U) (s:Int) (t:Int) (x:Int) (hp:Aw a s t x);refine aV [] [] [] [4] trivial yU F1 (Nf a s t x) (let v1:=a.next.getD (Int.toNat s) [];let v0:=v1.getD (Int.toNat t) [];let v2:=v0.getD (Int.toNat x) (0:Int);((((decide (s<(0:Int)))=true->(-1:Int)=(fY a s t x))/\((decide (s<(0:Int)))=false->(a.next.length<=140737488355328->(aE s a.next.length/\(v1.length<=140737488355328->(aE t v1.length/\(v0.length<=140737488355328->(aE x v0.length/\(au v2->v2=(fY a s t x)))))))))))) ?_;have ha:=hp.h.ha;have n0:=hp.h.s0;have n1:=hp.h.s1;have n2:=hp.h.t0;have n3:=hp.h.t1;have n4:=hp.x0;have n5:=hp.x1;have n6:=ha.rwl s.toNat t.toNat;have n7:=n6.nx;have n8:=n6.r;have n9:=n6.rr;refine⟨λ _=>?_,λ _ _=>⟨?_,λ _=>⟨?_,λ _=>⟨?_,λ _=>?_⟩⟩⟩⟩;all_goals try and_intros
 all_goals (try simp only[a7V,a8e,a7D,a7C,aE,au,bB,cN,a8t,a9p,a8C,b0j,a8x,a8s,a8j,a7K,a7I,a7T,a8A] at *);first|done|with_reducible assumption|omega|with_reducible rfl|exact trivial|exact a2J (by with_reducible assumption)|exact a2I (by with_reducible assumption)
def DE:aW:=⟨DQ,[.r (.st .automaton), .v (.int .i64), .v (.int .i64), .v (.int .i64)],λ (a:U) (s:Int) (t:Int) (x:Int)=>⟨(some (Aw a s t x),[⟨(.int .i64),fY a s t x⟩])⟩⟩
def OY(a:U)(s:Int)(t:Int)(x:Int):Nat->aL:=cB
def Iy:aW.Good DE:=by
 refine⟨aD AH,?_⟩;intro (a:U) (s:Int) (t:Int) (x:Int) (hp:Aw a s t x);refine aV [] [] [] [] trivial AH Ik (OY a s t x) (let v1:=a.next.getD (Int.toNat s) [];let v0:=v1.getD (Int.toNat t) [];let v2:=v0.getD (Int.toNat x) (0:Int);((((decide (s<(0:Int)))=true->(-1:Int)=(fY a s t x))/\((decide (s<(0:Int)))=false->(a.next.length<=140737488355328->(aE s a.next.length/\(v1.length<=140737488355328->(aE t v1.length/\(v0.length<=140737488355328->(aE x v0.length/\(au v2->v2=(fY a s t x)))))))))))) ?_;have ha:=hp.h.ha;have n0:=hp.h.s0;have n1:=hp.h.s1;have n2:=hp.h.t0;have n3:=hp.h.t1;have n4:=hp.x0;have n5:=hp.x1;have n6:=ha.rwl s.toNat t.toNat;have n7:=n6.nx;have n8:=n6.r;have n9:=n6.rr;refine⟨λ _=>?_,λ _ _=>⟨?_,λ _=>⟨?_,λ _=>⟨?_,λ _=>?_⟩⟩⟩⟩;all_goals try and_intros
 all_goals (try simp only[a7V,a8e,a7D,a7C,aE,au,bB,cN,a8t,a9p,a8C,b0j,a8x,a8s,a8j,a7K,a7I,a7T,a8A] at *);first|done|with_reducible assumption|omega|with_reducible rfl|exact trivial|exact a2J (by with_reducible assumption)|exact a2I (by with_reducible assumption)
def zm:aW:=⟨zG,[.v (.st .automaton), .v (.int .i64), .v (.int .i64)],λ (a:U) (s:Int) (t:Int)=>⟨(some (FF a s t),[⟨.bool,me a s t⟩])⟩⟩
def KM(a:U)(s:Int)(t:Int):Nat->aL:=cB
def Ez:aW.Good zm:=by
 refine⟨aD wD,?_⟩;intro (a:U) (s:Int) (t:Int) (hp:FF a s t);refine aV [] [] [] [3] trivial wD D6 (KM a s t) (let v0:=a.accept.getD (Int.toNat s) [];((((decide ((0:Int)<=s))=true->(a.accept.length<=140737488355328->(aE s a.accept.length/\(v0.length<=140737488355328->(aE t v0.length/\(v0.getD (Int.toNat t) false)=(me a s t))))))/\((decide ((0:Int)<=s))=(!true)->false=(me a s t))))) ?_;have ha:=hp.ha;have n0:=hp.s0;have n1:=hp.s1;have n2:=hp.t0;have n3:=hp.t1;have n6:=ha.rwl s.toNat t.toNat;have n7:=n6.n;have n8:=n6.ac;refine⟨λ _ _=>⟨?_,λ _=>⟨?_,?_⟩⟩,λ _=>?_⟩;all_goals try and_intros
 all_goals (try simp only[a7V,a8e,a7D,a7C,aE,au,bB,cN,a8t,a9p,a8C,b0j,a8x,a8s,a8j,a7K,a7I,a7T,a8A] at *);first|done|with_reducible assumption|omega|with_reducible rfl|exact trivial|exact a2n (by with_reducible assumption)|exact VU (by with_reducible assumption)|exact VU (by omega)
def Bw:aW:=⟨BK,[.r (.st .automaton), .v (.int .i64), .v (.int .i64)],λ (a:U) (s:Int) (t:Int)=>⟨(some (FF a s t),[⟨.bool,me a s t⟩])⟩⟩
def Np(a:U)(s:Int)(t:Int):Nat->aL:=cB
def GM:aW.Good Bw:=by
 refine⟨aD yY,?_⟩;intro (a:U) (s:Int) (t:Int) (hp:FF a s t);refine aV [] [] [] [] trivial yY Gb (Np a s t) (let v0:=a.accept.getD (Int.toNat s) [];((((decide ((0:Int)<=s))=true->(a.accept.length<=140737488355328->(aE s a.accept.length/\(v0.length<=140737488355328->(aE t v0.length/\(v0.getD (Int.toNat t) false)=(me a s t))))))/\((decide ((0:Int)<=s))=(!true)->false=(me a s t))))) ?_;have ha:=hp.ha;have n0:=hp.s0;have n1:=hp.s1;have n2:=hp.t0;have n3:=hp.t1;have n6:=ha.rwl s.toNat t.toNat;have n7:=n6.n;have n8:=n6.ac;refine⟨λ _ _=>⟨?_,λ _=>⟨?_,?_⟩⟩,λ _=>?_⟩;all_goals try and_intros
 all_goals (try simp only[a7V,a8e,a7D,a7C,aE,au,bB,cN,a8t,a9p,a8C,b0j,a8x,a8s,a8j,a7K,a7I,a7T,a8A] at *);first|done|with_reducible assumption|omega|with_reducible rfl|exact trivial|exact a2n (by with_reducible assumption)|exact VU (by with_reducible assumption)|exact VU (by omega)
structure RnI(a b:U)(i:Nat):Prop where
 l1:(aF a b i).length<=3721
 l2:1<=(aF a b i).length
def Rx{a b:U}(h:AB a b)(i:Nat):RnI a b i:=by
 have q:=jv h i;have:=q.lu h;have:=q.pos;exact⟨by omega,by omega⟩
structure RnT(a b:U)(i t:Nat):Prop where
 t1:(cq a b ((aF a b i).getD i (ae.mk (ar.mk (0:Int) (0:Int)) (0:Int) (0:Int) (0:Int))).pair i (aF a b i) t).length<=3721
 t2:i<(cq a b ((aF a b i).getD i (ae.mk (ar.mk (0:Int) (0:Int)) (0:Int) (0:Int) (0:Int))).pair i (aF a b i) t).length
def rnT{a b:U}(h:AB a b){i t:Nat}(hi:i<(aF a b i).length)(ht:t<=mK a):RnT a b i t:=by
 have q:=Cw h ((jv h i).get hi) (jv h i) hi t ht;have:=q.g.lu h;have:=q.up;exact⟨by omega,by omega⟩
structure RnX(a b:U)(i t x:Nat):Prop where
 x1:(cD a b ((aF a b i).getD i (ae.mk (ar.mk (0:Int) (0:Int)) (0:Int) (0:Int) (0:Int))).pair i t (cq a b ((aF a b i).getD i (ae.mk (ar.mk (0:Int) (0:Int)) (0:Int) (0:Int) (0:Int))).pair i (aF a b i) t) x).length<=3721
 x2:i<(cD a b ((aF a b i).getD i (ae.mk (ar.mk (0:Int) (0:Int)) (0:Int) (0:Int) (0:Int))).pair i t (cq a b ((aF a b i).getD i (ae.mk (ar.mk (0:Int) (0:Int)) (0:Int) (0:Int) (0:Int))).pair i (aF a b i) t) x).length
def Z8{a b:U}(h:AB a b){i t x:Nat}(hi:i<(aF a b i).length)(ht:t<mK a)(hx:x<=kK a):RnX a b i t x:=by
 have q0:=Cw h ((jv h i).get hi) (jv h i) hi t (b0n ht);have:=q0.up;have q:=LH h ((jv h i).get hi) ht q0.g (show i<(cq a b ((aF a b i).getD i (ae.mk (ar.mk (0:Int) (0:Int)) (0:Int) (0:Int) (0:Int))).pair i (aF a b i) t).length by omega) x hx;have:=q.g.lu h;have:=q.up;exact⟨by omega,by omega⟩
def rnN{a b:U}(h:AB a b){i t x:Nat}(hi:i<(aF a b i).length)(ht:t<mK a)(hx:x<kK a):Aw a ((aF a b i).getD i (ae.mk (ar.mk (0:Int) (0:Int)) (0:Int) (0:Int) (0:Int))).pair.a0 (t:Int) (x:Int)/\Aw b ((aF a b i).getD i (ae.mk (ar.mk (0:Int) (0:Int)) (0:Int) (0:Int) (0:Int))).pair.a1 (t:Int) (x:Int):=We h ((jv h i).get hi) ht hx
def a2P{a b:U}(h:AB a b){i t x:Nat}(hi:i<(aF a b i).length)(ht:t<mK a)(hx:x<kK a):Aw a ((aF a b i).getD i (ae.mk (ar.mk (0:Int) (0:Int)) (0:Int) (0:Int) (0:Int))).pair.a0 (t:Int) (x:Int):=(rnN h hi ht hx).1
def a2Q{a b:U}(h:AB a b){i t x:Nat}(hi:i<(aF a b i).length)(ht:t<mK a)(hx:x<kK a):Aw b ((aF a b i).getD i (ae.mk (ar.mk (0:Int) (0:Int)) (0:Int) (0:Int) (0:Int))).pair.a1 (t:Int) (x:Int):=(rnN h hi ht hx).2
def Z7{a b:U}(h:AB a b){i t x:Nat}(hi:i<(aF a b i).length)(ht:t<mK a)(hx:x<kK a) : -1<=(Va a b ((aF a b i).getD i (ae.mk (ar.mk (0:Int) (0:Int)) (0:Int) (0:Int) (0:Int))).pair t x).a0 /\ -1<=(Va a b ((aF a b i).getD i (ae.mk (ar.mk (0:Int) (0:Int)) (0:Int) (0:Int) (0:Int))).pair t x).a1:=by
 have q:=rnN h hi ht hx;exact⟨(Rp q.1).1,(Rp q.2).1⟩
def Vg{a b:U}(h:AB a b){i t x:Nat}(hi:i<(aF a b i).length)(ht:t<mK a)(hx:x<kK a)(w:Option.getD (eY (cD a b ((aF a b i).getD i (ae.mk (ar.mk (0:Int) (0:Int)) (0:Int) (0:Int) (0:Int))).pair i t (cq a b ((aF a b i).getD i (ae.mk (ar.mk (0:Int) (0:Int)) (0:Int) (0:Int) (0:Int))).pair i (aF a b i) t) x) (ar.mk (fY a ((aF a b i).getD i (ae.mk (ar.mk (0:Int) (0:Int)) (0:Int) (0:Int) (0:Int))).pair.a0 (t:Int) (x:Int)) (fY b ((aF a b i).getD i (ae.mk (ar.mk (0:Int) (0:Int)) (0:Int) (0:Int) (0:Int))).pair.a1 (t:Int) (x:Int)))) false=true):(cD a b ((aF a b i).getD i (ae.mk (ar.mk (0:Int) (0:Int)) (0:Int) (0:Int) (0:Int))).pair i t (cq a b ((aF a b i).getD i (ae.mk (ar.mk (0:Int) (0:Int)) (0:Int) (0:Int) (0:Int))).pair i (aF a b i) t) x)=(cD a b ((aF a b i).getD i (ae.mk (ar.mk (0:Int) (0:Int)) (0:Int) (0:Int) (0:Int))).pair i t (cq a b ((aF a b i).getD i (ae.mk (ar.mk (0:Int) (0:Int)) (0:Int) (0:Int) (0:Int))).pair i (aF a b i) t) (x+1)):=Z3 (ls:=(cD a b ((aF a b i).getD i (ae.mk (ar.mk (0:Int) (0:Int)) (0:Int) (0:Int) (0:Int))).pair i t (cq a b ((aF a b i).getD i (ae.mk (ar.mk (0:Int) (0:Int)) (0:Int) (0:Int) (0:Int))).pair i (aF a b i) t) x)) (q:=(Vb a b ((aF a b i).getD i (ae.mk (ar.mk (0:Int) (0:Int)) (0:Int) (0:Int) (0:Int))).pair i t x)) ((V6 (Z7 h hi ht hx)).1 w)
def a3Y{a b:U}(h:AB a b){i t x:Nat}(hi:i<(aF a b i).length)(ht:t<mK a)(hx:x<kK a)(w:Option.getD (eY (cD a b ((aF a b i).getD i (ae.mk (ar.mk (0:Int) (0:Int)) (0:Int) (0:Int) (0:Int))).pair i t (cq a b ((aF a b i).getD i (ae.mk (ar.mk (0:Int) (0:Int)) (0:Int) (0:Int) (0:Int))).pair i (aF a b i) t) x) (ar.mk (fY a ((aF a b i).getD i (ae.mk (ar.mk (0:Int) (0:Int)) (0:Int) (0:Int) (0:Int))).pair.a0 (t:Int) (x:Int)) (fY b ((aF a b i).getD i (ae.mk (ar.mk (0:Int) (0:Int)) (0:Int) (0:Int) (0:Int))).pair.a1 (t:Int) (x:Int)))) false=true):eY (cD a b ((aF a b i).getD i (ae.mk (ar.mk (0:Int) (0:Int)) (0:Int) (0:Int) (0:Int))).pair i t (cq a b ((aF a b i).getD i (ae.mk (ar.mk (0:Int) (0:Int)) (0:Int) (0:Int) (0:Int))).pair i (aF a b i) t) x)=eY (cD a b ((aF a b i).getD i (ae.mk (ar.mk (0:Int) (0:Int)) (0:Int) (0:Int) (0:Int))).pair i t (cq a b ((aF a b i).getD i (ae.mk (ar.mk (0:Int) (0:Int)) (0:Int) (0:Int) (0:Int))).pair i (aF a b i) t) (x+1)):=congrArg eY (Vg h hi ht hx w)
def a4a{a b:U}(h:AB a b){i t x:Nat}(hi:i<(aF a b i).length)(ht:t<mK a)(hx:x<kK a)(w:Option.getD (eY (cD a b ((aF a b i).getD i (ae.mk (ar.mk (0:Int) (0:Int)) (0:Int) (0:Int) (0:Int))).pair i t (cq a b ((aF a b i).getD i (ae.mk (ar.mk (0:Int) (0:Int)) (0:Int) (0:Int) (0:Int))).pair i (aF a b i) t) x) (ar.mk (fY a ((aF a b i).getD i (ae.mk (ar.mk (0:Int) (0:Int)) (0:Int) (0:Int) (0:Int))).pair.a0 (t:Int) (x:Int)) (fY b ((aF a b i).getD i (ae.mk (ar.mk (0:Int) (0:Int)) (0:Int) (0:Int) (0:Int))).pair.a1 (t:Int) (x:Int)))) false=true):(cD a b ((aF a b i).getD i (ae.mk (ar.mk (0:Int) (0:Int)) (0:Int) (0:Int) (0:Int))).pair i t (cq a b ((aF a b i).getD i (ae.mk (ar.mk (0:Int) (0:Int)) (0:Int) (0:Int) (0:Int))).pair i (aF a b i) t) x).length+1=(cD a b ((aF a b i).getD i (ae.mk (ar.mk (0:Int) (0:Int)) (0:Int) (0:Int) (0:Int))).pair i t (cq a b ((aF a b i).getD i (ae.mk (ar.mk (0:Int) (0:Int)) (0:Int) (0:Int) (0:Int))).pair i (aF a b i) t) (x+1)).length+1:=congrArg (λ l=>List.length l+1) (Vg h hi ht hx w)
def Vf{a b:U}(h:AB a b){i t x:Nat}(hi:i<(aF a b i).length)(ht:t<mK a)(hx:x<kK a)(w:Option.getD (eY (cD a b ((aF a b i).getD i (ae.mk (ar.mk (0:Int) (0:Int)) (0:Int) (0:Int) (0:Int))).pair i t (cq a b ((aF a b i).getD i (ae.mk (ar.mk (0:Int) (0:Int)) (0:Int) (0:Int) (0:Int))).pair i (aF a b i) t) x) (ar.mk (fY a ((aF a b i).getD i (ae.mk (ar.mk (0:Int) (0:Int)) (0:Int) (0:Int) (0:Int))).pair.a0 (t:Int) (x:Int)) (fY b ((aF a b i).getD i (ae.mk (ar.mk (0:Int) (0:Int)) (0:Int) (0:Int) (0:Int))).pair.a1 (t:Int) (x:Int)))) false=false):(cD a b ((aF a b i).getD i (ae.mk (ar.mk (0:Int) (0:Int)) (0:Int) (0:Int) (0:Int))).pair i t (cq a b ((aF a b i).getD i (ae.mk (ar.mk (0:Int) (0:Int)) (0:Int) (0:Int) (0:Int))).pair i (aF a b i) t) x)++[ae.mk (ar.mk (fY a ((aF a b i).getD i (ae.mk (ar.mk (0:Int) (0:Int)) (0:Int) (0:Int) (0:Int))).pair.a0 (t:Int) (x:Int)) (fY b ((aF a b i).getD i (ae.mk (ar.mk (0:Int) (0:Int)) (0:Int) (0:Int) (0:Int))).pair.a1 (t:Int) (x:Int))) (i:Int) (t:Int) (x:Int)]=(cD a b ((aF a b i).getD i (ae.mk (ar.mk (0:Int) (0:Int)) (0:Int) (0:Int) (0:Int))).pair i t (cq a b ((aF a b i).getD i (ae.mk (ar.mk (0:Int) (0:Int)) (0:Int) (0:Int) (0:Int))).pair i (aF a b i) t) (x+1)):=Z1 (ls:=(cD a b ((aF a b i).getD i (ae.mk (ar.mk (0:Int) (0:Int)) (0:Int) (0:Int) (0:Int))).pair i t (cq a b ((aF a b i).getD i (ae.mk (ar.mk (0:Int) (0:Int)) (0:Int) (0:Int) (0:Int))).pair i (aF a b i) t) x)) (q:=(Vb a b ((aF a b i).getD i (ae.mk (ar.mk (0:Int) (0:Int)) (0:Int) (0:Int) (0:Int))).pair i t x)) λ q=>absurd ((V6 (Z7 h hi ht hx)).2 q) (by rw[b0v];exact w)
def a3X{a b:U}(h:AB a b){i t x:Nat}(hi:i<(aF a b i).length)(ht:t<mK a)(hx:x<kK a)(w:Option.getD (eY (cD a b ((aF a b i).getD i (ae.mk (ar.mk (0:Int) (0:Int)) (0:Int) (0:Int) (0:Int))).pair i t (cq a b ((aF a b i).getD i (ae.mk (ar.mk (0:Int) (0:Int)) (0:Int) (0:Int) (0:Int))).pair i (aF a b i) t) x) (ar.mk (fY a ((aF a b i).getD i (ae.mk (ar.mk (0:Int) (0:Int)) (0:Int) (0:Int) (0:Int))).pair.a0 (t:Int) (x:Int)) (fY b ((aF a b i).getD i (ae.mk (ar.mk (0:Int) (0:Int)) (0:Int) (0:Int) (0:Int))).pair.a1 (t:Int) (x:Int)))) false=false):eL (eY (cD a b ((aF a b i).getD i (ae.mk (ar.mk (0:Int) (0:Int)) (0:Int) (0:Int) (0:Int))).pair i t (cq a b ((aF a b i).getD i (ae.mk (ar.mk (0:Int) (0:Int)) (0:Int) (0:Int) (0:Int))).pair i (aF a b i) t) x)) (ar.mk (fY a ((aF a b i).getD i (ae.mk (ar.mk (0:Int) (0:Int)) (0:Int) (0:Int) (0:Int))).pair.a0 (t:Int) (x:Int)) (fY b ((aF a b i).getD i (ae.mk (ar.mk (0:Int) (0:Int)) (0:Int) (0:Int) (0:Int))).pair.a1 (t:Int) (x:Int))) true=eY (cD a b ((aF a b i).getD i (ae.mk (ar.mk (0:Int) (0:Int)) (0:Int) (0:Int) (0:Int))).pair i t (cq a b ((aF a b i).getD i (ae.mk (ar.mk (0:Int) (0:Int)) (0:Int) (0:Int) (0:Int))).pair i (aF a b i) t) (x+1)):=by
 rw[<-Vf h hi ht hx w];exact ZG (cD a b ((aF a b i).getD i (ae.mk (ar.mk (0:Int) (0:Int)) (0:Int) (0:Int) (0:Int))).pair i t (cq a b ((aF a b i).getD i (ae.mk (ar.mk (0:Int) (0:Int)) (0:Int) (0:Int) (0:Int))).pair i (aF a b i) t) x) (Vb a b ((aF a b i).getD i (ae.mk (ar.mk (0:Int) (0:Int)) (0:Int) (0:Int) (0:Int))).pair i t x)
def a3Z{a b:U}(h:AB a b){i t x:Nat}(hi:i<(aF a b i).length)(ht:t<mK a)(hx:x<kK a)(w:Option.getD (eY (cD a b ((aF a b i).getD i (ae.mk (ar.mk (0:Int) (0:Int)) (0:Int) (0:Int) (0:Int))).pair i t (cq a b ((aF a b i).getD i (ae.mk (ar.mk (0:Int) (0:Int)) (0:Int) (0:Int) (0:Int))).pair i (aF a b i) t) x) (ar.mk (fY a ((aF a b i).getD i (ae.mk (ar.mk (0:Int) (0:Int)) (0:Int) (0:Int) (0:Int))).pair.a0 (t:Int) (x:Int)) (fY b ((aF a b i).getD i (ae.mk (ar.mk (0:Int) (0:Int)) (0:Int) (0:Int) (0:Int))).pair.a1 (t:Int) (x:Int)))) false=false):fK (eY (cD a b ((aF a b i).getD i (ae.mk (ar.mk (0:Int) (0:Int)) (0:Int) (0:Int) (0:Int))).pair i t (cq a b ((aF a b i).getD i (ae.mk (ar.mk (0:Int) (0:Int)) (0:Int) (0:Int) (0:Int))).pair i (aF a b i) t) x) (ar.mk (fY a ((aF a b i).getD i (ae.mk (ar.mk (0:Int) (0:Int)) (0:Int) (0:Int) (0:Int))).pair.a0 (t:Int) (x:Int)) (fY b ((aF a b i).getD i (ae.mk (ar.mk (0:Int) (0:Int)) (0:Int) (0:Int) (0:Int))).pair.a1 (t:Int) (x:Int)))) ((cD a b ((aF a b i).getD i (ae.mk (ar.mk (0:Int) (0:Int)) (0:Int) (0:Int) (0:Int))).pair i t (cq a b ((aF a b i).getD i (ae.mk (ar.mk (0:Int) (0:Int)) (0:Int) (0:Int) (0:Int))).pair i (aF a b i) t) x).length+1)=(cD a b ((aF a b i).getD i (ae.mk (ar.mk (0:Int) (0:Int)) (0:Int) (0:Int) (0:Int))).pair i t (cq a b ((aF a b i).getD i (ae.mk (ar.mk (0:Int) (0:Int)) (0:Int) (0:Int) (0:Int))).pair i (aF a b i) t) (x+1)).length+1:=by
 rw[<-Vf h hi ht hx w,ZF (by rw[b0v];exact w)];simp
def rzT{a b:U}{p:ar}{i:Nat}{ls:List ae}:ls=cq a b p i ls 0:=rfl
def rzX{a b:U}{p:ar}{i t:Nat}{ls:List ae}:ls=cD a b p i t ls 0:=rfl
def rzL(a b:U):[ae.mk (ar.mk (0:Int) (0:Int)) (-1:Int) (0:Int) (0:Int)]=aF a b 0:=rfl
def a1q(q:ar):eY [ae.mk (ar.mk (0:Int) (0:Int)) (-1:Int) (0:Int) (0:Int)] q=if (q.a0=0/\q.a1=0)\/(q.a0 = -1/\q.a1 = -1) then some true else none:=by
 unfold eY;have:kU [ae.mk (ar.mk (0:Int) (0:Int)) (-1:Int) (0:Int) (0:Int)] q=true↔(q.a0=0/\q.a1=0):=by
  rw[rJ];constructor
  .rintro⟨r,h1,h2⟩;rw[a7O] at h1;subst h1;subst h2;exact⟨rfl,rfl⟩
  .rintro⟨h1,h2⟩;refine⟨_,List.mem_singleton_self _,?_⟩;obtain⟨q0,q1⟩:=q;simp only at h1 h2;rw[h1,h2]
 simp only[this]
def Lr(p q:ar):p=q↔p.a0=q.a0/\p.a1=q.a1:=by
 obtain⟨p0,p1⟩:=p;obtain⟨q0,q1⟩:=q;simp
def V7(a b:U):eL (eL (ie ar Bool) (ar.mk (0:Int) (0:Int)) true) (ar.mk (-1:Int) (-1:Int)) true=eY (aF a b 0):=by
 rw[<-rzL];funext q;rw[a1q];unfold eL ie;simp only[Lr];by_cases h1:q.a0=0/\q.a1=0
 .rw[a7z (show ¬ (q.a0 = -1/\q.a1 = -1) by omega),a7E h1,a7E (Or.inl h1)]
 .by_cases h2:q.a0 = -1/\q.a1 = -1
  .rw[a7E h2,a7E (Or.inr h2)]
  .rw[a7z h2,a7z h1,a7z (λ w=>w.elim h1 h2)]
def a1r(a b:U):eL (eL (ie ar Bool) (ar.mk (-1:Int) (-1:Int)) true) (ar.mk (0:Int) (0:Int)) true=eY (aF a b 0):=by
 rw[<-V7];funext q;unfold eL;simp only[Lr];by_cases h1:q.a0=0/\q.a1=0
 .rw[a7E h1,a7z (show ¬ (q.a0 = -1/\q.a1 = -1) by omega),a7E h1]
 .rw[a7z h1];by_cases h2:q.a0 = -1/\q.a1 = -1
  .rw[a7E h2,a7E h2]
  .rw[a7z h2,a7z h2,a7z h1]
def a1s(a b:U):fK (eL (ie ar Bool) (ar.mk (0:Int) (0:Int)) true (ar.mk (-1:Int) (-1:Int))) (fK (ie ar Bool (ar.mk (0:Int) (0:Int))) 0)=(aF a b 0).length+1:=by
 unfold eL;rw[if_neg (by rw[Lr];decide)];rfl
def a1t(a b:U):fK (eL (ie ar Bool) (ar.mk (-1:Int) (-1:Int)) true (ar.mk (0:Int) (0:Int))) (fK (ie ar Bool (ar.mk (-1:Int) (-1:Int))) 0)=(aF a b 0).length+1:=by
 unfold eL;rw[if_neg (by rw[Lr];decide)];rfl
def rxT{a b:U}{i t x:Nat}(h:x=kK a):(cD a b ((aF a b i).getD i (ae.mk (ar.mk (0:Int) (0:Int)) (0:Int) (0:Int) (0:Int))).pair i t (cq a b ((aF a b i).getD i (ae.mk (ar.mk (0:Int) (0:Int)) (0:Int) (0:Int) (0:Int))).pair i (aF a b i) t) x)=cq a b ((aF a b i).getD i (ae.mk (ar.mk (0:Int) (0:Int)) (0:Int) (0:Int) (0:Int))).pair i (aF a b i) (t+1):=by subst h;rfl
def rtI{a b:U}{i t:Nat}(hi:i<(aF a b i).length)(h:t=mK a):(cq a b ((aF a b i).getD i (ae.mk (ar.mk (0:Int) (0:Int)) (0:Int) (0:Int) (0:Int))).pair i (aF a b i) t)=aF a b (i+1):=by subst h;rw[aF,a7E hi]
def DC:aW:=⟨DL,[.v (.st .automaton), .v (.st .automaton)],λ (a:U) (b:U)=>⟨(some (AB a b),[⟨(.slice (.st .reached)),cQ a b⟩])⟩⟩
def OS(a:U)(b:U):Nat->aL:=(eS 100003 (.u (AB a b) [0,1,4,12,13,14] [(5, .row 14),(6, .mp 15)] [] [(14, .row lF (.st .reached) ((aF a b 0):List ae)),(15, .map ⟨(.st .arr2), .bool,(eY (aF a b 0):ar->Option Bool),((aF a b 0).length+1)⟩)] (eS 0 (.mk (Nat) (λ i=>i<=(aF a b i).length) (λ i=>3722 - i) [] [] (λ i=>[(7, .aQ ⟨(.int .i64),((i:Int):Int)⟩),(5, .row 14),(6, .mp 15)]) [] (λ i=>[(14, .row lF (.st .reached) ((aF a b i):List ae)),(15, .map ⟨(.st .arr2), .bool,(eY (aF a b i):ar->Option Bool),((aF a b i).length+1)⟩)]) [] [] (λ i=>(eS 2 (.mk (Nat) (λ t=>t<=mK a/\i<(aF a b i).length) (λ t=>mK a - t) [] [19,20,21,22,25,26,27,28,29,30,31] (λ t=>[(33, .aQ ⟨(.int .i64),((t:Int):Int)⟩),(5, .row 14),(6, .mp 15)]) [8] (λ t=>[(14, .row lF (.st .reached) ((cq a b ((aF a b i).getD i (ae.mk (ar.mk (0:Int) (0:Int)) (0:Int) (0:Int) (0:Int))).pair i (aF a b i) t):List ae)),(15, .map ⟨(.st .arr2), .bool,(eY (cq a b ((aF a b i).getD i (ae.mk (ar.mk (0:Int) (0:Int)) (0:Int) (0:Int) (0:Int))).pair i (aF a b i) t):ar->Option Bool),((cq a b ((aF a b i).getD i (ae.mk (ar.mk (0:Int) (0:Int)) (0:Int) (0:Int) (0:Int))).pair i (aF a b i) t).length+1)⟩)]) [] [] (λ t=>(eS 4 (.a (Nat) (λ x=>x<=kK a/\t<mK a) (λ x=>kK a - x) [34,35,36,37] (λ x=>[(39, .aQ ⟨(.int .i64),((x:Int):Int)⟩),(5, .row 14),(6, .mp 15)]) [8] (λ x=>[(14, .row lF (.st .reached) ((cD a b ((aF a b i).getD i (ae.mk (ar.mk (0:Int) (0:Int)) (0:Int) (0:Int) (0:Int))).pair i t (cq a b ((aF a b i).getD i (ae.mk (ar.mk (0:Int) (0:Int)) (0:Int) (0:Int) (0:Int))).pair i (aF a b i) t) x):List ae)),(15, .map ⟨(.st .arr2), .bool,(eY (cD a b ((aF a b i).getD i (ae.mk (ar.mk (0:Int) (0:Int)) (0:Int) (0:Int) (0:Int))).pair i t (cq a b ((aF a b i).getD i (ae.mk (ar.mk (0:Int) (0:Int)) (0:Int) (0:Int) (0:Int))).pair i (aF a b i) t) x):ar->Option Bool),((cD a b ((aF a b i).getD i (ae.mk (ar.mk (0:Int) (0:Int)) (0:Int) (0:Int) (0:Int))).pair i t (cq a b ((aF a b i).getD i (ae.mk (ar.mk (0:Int) (0:Int)) (0:Int) (0:Int) (0:Int))).pair i (aF a b i) t) x).length+1)⟩)])) cB))) cB))) cB)) cB)
abbrev ze(a:U)(b:U):Prop:=(let v0:=ar.mk (0:Int) (0:Int);let v1:=ie ar Bool;let v2:=ar.mk (-1:Int) (-1:Int);(0<1000000000/\((fK ((v1 v0)) 0)<1000000000/\(∃ u1:Unit,(AB a b/\((a=a/\(b=b/\(True/\(True/\True))))/\(([(ae.mk v0 (-1:Int) (0:Int) (0:Int))])=(aF a b 0)/\(((eL (eL v1 v0 true) v2 true)=(eY (aF a b 0))/\(fK (((eL v1 v0 true) v2)) (fK ((v1 v0)) 0))=((aF a b 0).length+1))/\True))))))))
abbrev KI(a:U)(b:U):Prop:=(let v0:=ar.mk (-1:Int) (-1:Int);let v1:=ar.mk (0:Int) (0:Int);let v2:=ie ar Bool;((0<1000000000/\((fK ((v2 v0)) 0)<1000000000/\(∃ u1:Unit,(AB a b/\((a=a/\(b=b/\(True/\(True/\True))))/\(([(ae.mk v1 (-1:Int) (0:Int) (0:Int))])=(aF a b 0)/\(((eL (eL v2 v0 true) v1 true)=(eY (aF a b 0))/\(fK (((eL v2 v0 true) v1)) (fK ((v2 v0)) 0))=((aF a b 0).length+1))/\True)))))))/\True))
abbrev KJ(a:U)(b:U)(i2:Nat):Prop:=(let v0:=(aF a b i2).getD i2 (ae.mk (ar.mk (0:Int) (0:Int)) (0:Int) (0:Int) (0:Int));((v0.pair.a0=v0.pair.a0/\(v0.pair.a1=v0.pair.a1/\True))/\True))
abbrev zg(a:U)(b:U)(i2:Nat)(t3:Nat)(x4:Nat)(x5:Nat):Prop:=(a=a/\(b=b/\(True/\(True/\((i2:Int)=(i2:Int)/\(True/\((t3:Int)=(t3:Int)/\((bA a.sig)=(bA a.sig)/\((t3:Int)=(t3:Int)/\(a.sig.av=a.sig.av/\(((x4:Int)+(1:Int))=(x5:Int)/\True)))))))))))
def Iv:aW.Good DC:=by
 refine⟨aD AA,?_⟩;intro (a:U) (b:U) (hp:AB a b);refine aV [iV,Bq] [] [] [2,3] ⟨iF,GD,af⟩ AA Ic (OS a b) (let v2:=bA a.sig;let v3:=(0:Int);let v0:=ae.mk (ar.mk v3 v3) v3 v3 v3;let v5:=KI a b;let v1:=(ze a b)/\v5;let v4:=(ze a b)/\(v1/\True);let v6:=(1:Int);((((v4/\((v1/\v5)/\True))/\((v4/\(v1/\True))/\(((v1/\v5)/\(v1/\True))/\True)))/\(∀ u1:Unit,(AB a b->((∃ i2:Nat,(i2<=(aF a b i2).length/\((a=a/\(b=b/\(True/\(True/\(v3=(i2:Int)/\True)))))/\((aF a b 0)=(aF a b i2)/\(((eY (aF a b 0))=(eY (aF a b i2))/\((aF a b 0).length+1)=((aF a b i2).length+1))/\True)))))/\(∀ i2:Nat,let v8:=aF a b i2;let v7:=v8.getD i2 v0;let v9:=(i2:Int);let va:=KJ a b i2;let vb:=decide (v9<((v8.length:Int)));(i2<=v8.length->(au ((v8.length:Int))->((vb=true->(aE v9 v8.length/\((0<=a.sig.aS/\a.sig.aS<=3)/\(au v2->((∃ t3:Nat,let vc:=cq a b v7.pair i2 v8 t3;((t3<=mK a/\i2<v8.length)/\((a=a/\(b=b/\(True/\(True/\(v9=v9/\(True/\(v2=v2/\(v3=(t3:Int)/\True))))))))/\(v8=vc/\(((eY v8)=(eY vc)/\(v8.length+1)=(vc.length+1))/\va)))))/\(∀ t3:Nat,let vc:=cq a b v7.pair i2 v8 t3;let vd:=(t3:Int);((t3<=mK a/\i2<v8.length)->(((decide (vd<v2))=true->(au a.sig.av->((∃ x4:Nat,let ve:=cD a b v7.pair i2 t3 vc x4;((x4<=kK a/\t3<mK a)/\((a=a/\(b=b/\(True/\(True/\(v9=v9/\(True/\(vd=vd/\(v2=v2/\(vd=vd/\(a.sig.av=a.sig.av/\(v3=(x4:Int)/\True)))))))))))/\(vc=ve/\(((eY vc)=(eY ve)/\(vc.length+1)=(ve.length+1))/\va)))))/\(∀ x4:Nat,let vf:=cD a b v7.pair i2 t3 vc x4;let vg:=(x4:Int);let ve:=ar.mk (fY a v7.pair.a0 vd vg) (fY b v7.pair.a1 vd vg);let vh:=vf.length+1;let vi := !(Option.getD (((eY vf) ve)) false);((x4<=kK a/\t3<mK a)->(((decide (vg<a.sig.av))=true->(Aw a v7.pair.a0 vd vg/\(Aw b v7.pair.a1 vd vg/\(au v7.pair.a0->(au (fY a v7.pair.a0 vd vg)->(au v7.pair.a1->(au (fY b v7.pair.a1 vd vg)->((vi=true->(vh<1000000000/\(bB (vf.length+([(ae.mk ve v9 vd vg)]).length) 40/\(au (vg+v6)/\(∃ x5:Nat,let vj:=cD a b v7.pair i2 t3 vc x5;((x5<=kK a/\t3<mK a)/\(kK a - x5<kK a - x4/\((zg a b i2 t3 x4 x5)/\((vf++([(ae.mk ve v9 vd vg)]))=vj/\(((eL (eY vf) ve true)=(eY vj)/\(fK (((eY vf) ve)) vh)=(vj.length+1))/\va))))))))))/\(vi=false->(au (vg+v6)/\(∃ x5:Nat,let vj:=cD a b v7.pair i2 t3 vc x5;((x5<=kK a/\t3<mK a)/\(kK a - x5<kK a - x4/\((zg a b i2 t3 x4 x5)/\(vf=vj/\(((eY vf)=(eY vj)/\vh=(vj.length+1))/\va))))))))))))))))/\((decide (vg<a.sig.av))=false->(au (vd+v6)/\(∃ t5:Nat,let vj:=cq a b v7.pair i2 v8 t5;((t5<=mK a/\i2<v8.length)/\(mK a - t5<mK a - t3/\((a=a/\(b=b/\(True/\(True/\(v9=v9/\(True/\(v2=v2/\((vd+v6)=(t5:Int)/\True))))))))/\(vf=vj/\(((eY vf)=(eY vj)/\vh=(vj.length+1))/\va))))))))))))))/\((decide (vd<v2))=false->(au (v9+v6)/\(∃ i4:Nat,(i4<=(aF a b i4).length/\(3722 - i4<3722 - i2/\((a=a/\(b=b/\(True/\(True/\((v9+v6)=(i4:Int)/\True)))))/\(vc=(aF a b i4)/\(((eY vc)=(eY (aF a b i4))/\(vc.length+1)=((aF a b i4).length+1))/\True))))))))))))))))/\(vb=false->v8=(cQ a b)))))))))))) ?_;have ha:=hp.ka;have hb:=hp.kb;have n1:(bA a.sig)=(mK a:Int):=ha.lens.2.2.2.1.symm;have n2:a.sig.av=(kK a:Int):=ha.lens.2.2.2.2.symm;have n4:=(dW a.sig).1 ha.s;have n5:=ha.lens;refine⟨⟨⟨⟨⟨?_,?_,(),?_,⟨rfl,rfl,af,af,af⟩,?_,⟨?_,?_⟩,af⟩,⟨⟨?_,?_,(),?_,⟨rfl,rfl,af,af,af⟩,?_,⟨?_,?_⟩,af⟩,⟨?_,?_,(),?_,⟨rfl,rfl,af,af,af⟩,?_,⟨?_,?_⟩,af⟩,af⟩,af⟩,⟨⟨⟨?_,?_,(),?_,⟨rfl,rfl,af,af,af⟩,?_,⟨?_,?_⟩,af⟩,⟨?_,?_,(),?_,⟨rfl,rfl,af,af,af⟩,?_,⟨?_,?_⟩,af⟩,af⟩,⟨?_,?_,(),?_,⟨rfl,rfl,af,af,af⟩,?_,⟨?_,?_⟩,af⟩,af⟩,af⟩,⟨⟨⟨?_,?_,(),?_,⟨rfl,rfl,af,af,af⟩,?_,⟨?_,?_⟩,af⟩,⟨⟨?_,?_,(),?_,⟨rfl,rfl,af,af,af⟩,?_,⟨?_,?_⟩,af⟩,⟨?_,?_,(),?_,⟨rfl,rfl,af,af,af⟩,?_,⟨?_,?_⟩,af⟩,af⟩,af⟩,⟨⟨?_,?_,(),?_,⟨rfl,rfl,af,af,af⟩,?_,⟨?_,?_⟩,af⟩,⟨?_,?_,(),?_,⟨rfl,rfl,af,af,af⟩,?_,⟨?_,?_⟩,af⟩,af⟩,af⟩,⟨⟨⟨⟨?_,?_,(),?_,⟨rfl,rfl,af,af,af⟩,?_,⟨?_,?_⟩,af⟩,⟨?_,?_,(),?_,⟨rfl,rfl,af,af,af⟩,?_,⟨?_,?_⟩,af⟩,af⟩,⟨?_,?_,(),?_,⟨rfl,rfl,af,af,af⟩,?_,⟨?_,?_⟩,af⟩,af⟩,⟨⟨?_,?_,(),?_,⟨rfl,rfl,af,af,af⟩,?_,⟨?_,?_⟩,af⟩,⟨?_,?_,(),?_,⟨rfl,rfl,af,af,af⟩,?_,⟨?_,?_⟩,af⟩,af⟩,af⟩,af⟩,λ u1 a0=>⟨⟨0,?_,⟨rfl,rfl,af,af,?_,af⟩,?_,⟨?_,?_⟩,af⟩,λ i2 a1 _=>⟨λ _=>⟨?_,?_,λ _=>⟨⟨0,?_,⟨rfl,rfl,af,af,rfl,af,rfl,?_,af⟩,?_,⟨?_,?_⟩,⟨rfl,rfl,af⟩,af⟩,λ t3 _=>⟨λ _ _=>⟨⟨0,?_,⟨rfl,rfl,af,af,rfl,af,rfl,rfl,rfl,rfl,?_,af⟩,?_,⟨?_,?_⟩,⟨rfl,rfl,af⟩,af⟩,λ x4 _=>⟨λ _=>⟨?_,?_,λ _ _ _ _=>⟨λ _=>⟨?_,?_,?_,x4+1,?_,?_,⟨rfl,rfl,af,af,rfl,af,rfl,rfl,rfl,rfl,?_,af⟩,?_,⟨?_,?_⟩,⟨rfl,rfl,af⟩,af⟩,λ _=>⟨?_,x4+1,?_,?_,⟨rfl,rfl,af,af,rfl,af,rfl,rfl,rfl,rfl,?_,af⟩,?_,⟨?_,?_⟩,⟨rfl,rfl,af⟩,af⟩⟩⟩,λ _=>⟨?_,t3+1,?_,?_,⟨rfl,rfl,af,af,rfl,af,rfl,?_,af⟩,?_,⟨?_,?_⟩,⟨rfl,rfl,af⟩,af⟩⟩⟩,λ _=>⟨?_,i2+1,?_,?_,⟨rfl,rfl,af,af,?_,af⟩,?_,⟨?_,?_⟩,af⟩⟩⟩⟩,λ _=>?_⟩⟩⟩;all_goals try and_intros
 all_goals (try simp only[a7V,a8e,a7D,a7C,aE,au,bB,cN,a8t,a9p,a8C,b0j,a8x,a8s,a8j,a9m,a7K,a7I,a7T,a8A] at *);first|done|with_reducible assumption|omega|with_reducible rfl|exact trivial|(have q0:=Rx hp i2;obtain⟨_,_⟩:=q0;omega)|(have q0:=Rx hp i2;obtain⟨_,_⟩:=q0;have q0:=rnT hp (i:=i2) (t:=t3) (by omega) (by omega);obtain⟨_,_⟩:=q0;omega)|(have q0:=Rx hp i2;obtain⟨_,_⟩:=q0;have q0:=rnT hp (i:=i2) (t:=t3) (by omega) (by omega);obtain⟨_,_⟩:=q0;have q0:=Z8 hp (i:=i2) (t:=t3) (x:=x4) (by omega) (by omega) (by omega);obtain⟨_,_⟩:=q0;omega)|exact a2P hp (by omega) (by omega) (by omega)|exact a2Q hp (by omega) (by omega) (by omega)|exact Vg hp (by omega) (by omega) (by omega) (by with_reducible assumption)|exact a3Y hp (by omega) (by omega) (by omega) (by with_reducible assumption)|exact a4a hp (by omega) (by omega) (by omega) (by with_reducible assumption)|exact Vf hp (by omega) (by omega) (by omega) (by with_reducible assumption)|exact a3X hp (by omega) (by omega) (by omega) (by with_reducible assumption)|exact a3Z hp (by omega) (by omega) (by omega) (by with_reducible assumption)|exact V7 a b|exact a1r a b|exact a1s a b|exact a1t a b|exact rzL a b|exact rzT|exact congrArg eY rzT|exact congrArg (λ l=>List.length l+1) rzT|exact rzX|exact congrArg eY rzX|exact congrArg (λ l=>List.length l+1) rzX|(simp[fK,ie];done)|exact rxT (by omega)|exact congrArg eY (rxT (by omega))|exact congrArg (λ l=>List.length l+1) (rxT (by omega))|exact rtI (by omega) (by omega)|exact congrArg eY (rtI (by omega) (by omega))|exact congrArg (λ l=>List.length l+1) (rtI (by omega) (by omega))|exact Wd hp (by omega)|(have q0:=Rx hp i2;obtain⟨_,_⟩:=q0;exact NT (i:=i2) (by omega) (by omega))
def p0(ls:List ae):List Int:=ls.map λ r=>r.pair.a0
def p1(ls:List ae):List Int:=ls.map λ r=>r.pair.a1
def Wb(ls:List ae):(p0 ls).length=ls.length:=by simp[p0]
def Wc(ls:List ae):(p1 ls).length=ls.length:=by simp[p1]
def Cs{ls:List ae}{k:Nat}(h:k<ls.length):(p0 ls).getD k 0=(ls.getD k (ae.mk (ar.mk (0:Int) (0:Int)) (0:Int) (0:Int) (0:Int))).pair.a0:=by simp[p0,a7G,h]
def Ct{ls:List ae}{k:Nat}(h:k<ls.length):(p1 ls).getD k 0=(ls.getD k (ae.mk (ar.mk (0:Int) (0:Int)) (0:Int) (0:Int) (0:Int))).pair.a1:=by simp[p1,a7G,h]
def pz0(a b:U):[(0:Int)]=p0 (aF a b 0):=rfl
def pz1(a b:U):[(0:Int)]=p1 (aF a b 0):=rfl
abbrev U9(a:U)(ls:List ae)(i t x:Nat):Int:=fY a ((p0 ls).getD i 0) (t:Int) (x:Int)
abbrev ZY(b:U)(ls:List ae)(i t x:Nat):Int:=fY b ((p1 ls).getD i 0) (t:Int) (x:Int)
def nG(a b:U)(ls:List ae)(i t x:Nat):ar:=ar.mk (U9 a ls i t x) (ZY b ls i t x)
def nF(ls:List ae)(q:ar)(k:Nat):Bool:=BT q||kU (ls.take k) q
def a3O{ls:List ae}{q:ar}{k:Nat}{p:Prop}(h:nF ls q k=true)(h2:nF ls q k=false):p:=by rw[h] at h2;cases h2
def Ry{a b:U}(h:AB a b){i t x:Nat}(hi:i<(aF a b i).length)(ht:t<mK a)(hx:x<=kK a):(cD a b ((aF a b i).getD i (ae.mk (ar.mk (0:Int) (0:Int)) (0:Int) (0:Int) (0:Int))).pair i t (cq a b ((aF a b i).getD i (ae.mk (ar.mk (0:Int) (0:Int)) (0:Int) (0:Int) (0:Int))).pair i (aF a b i) t) x).getD i (ae.mk (ar.mk (0:Int) (0:Int)) (0:Int) (0:Int) (0:Int))=(aF a b i).getD i (ae.mk (ar.mk (0:Int) (0:Int)) (0:Int) (0:Int) (0:Int)):=by
 have q0:=Cw h ((jv h i).get hi) (jv h i) hi t (b0n ht);have u:=q0.up;have q:=LH h ((jv h i).get hi) ht q0.g (show i<(cq a b ((aF a b i).getD i (ae.mk (ar.mk (0:Int) (0:Int)) (0:Int) (0:Int) (0:Int))).pair i (aF a b i) t).length by omega) x hx;exact (q.pre i (by omega)).trans (q0.pre i hi)
def ZZ{a b:U}(h:AB a b){i t x:Nat}(hi:i<(aF a b i).length)(ht:t<mK a)(hx:x<=kK a):nG a b (cD a b ((aF a b i).getD i (ae.mk (ar.mk (0:Int) (0:Int)) (0:Int) (0:Int) (0:Int))).pair i t (cq a b ((aF a b i).getD i (ae.mk (ar.mk (0:Int) (0:Int)) (0:Int) (0:Int) (0:Int))).pair i (aF a b i) t) x) i t x=Va a b ((aF a b i).getD i (ae.mk (ar.mk (0:Int) (0:Int)) (0:Int) (0:Int) (0:Int))).pair t x:=by
 have u:=(Z8 h hi ht hx).x2;unfold nG Va U9 ZY;rw[Cs u,Ct u,Ry h hi ht hx]
def qn0{a b:U}(h:AB a b){i t x:Nat}(hi:i<(aF a b i).length)(ht:t<mK a)(hx:x<kK a):Aw a ((p0 (cD a b ((aF a b i).getD i (ae.mk (ar.mk (0:Int) (0:Int)) (0:Int) (0:Int) (0:Int))).pair i t (cq a b ((aF a b i).getD i (ae.mk (ar.mk (0:Int) (0:Int)) (0:Int) (0:Int) (0:Int))).pair i (aF a b i) t) x)).getD i 0) (t:Int) (x:Int):=by
 have u:=(Z8 h hi ht (b0n hx)).x2;rw[Cs u,Ry h hi ht (b0n hx)];exact a2P h hi ht hx
def qn1{a b:U}(h:AB a b){i t x:Nat}(hi:i<(aF a b i).length)(ht:t<mK a)(hx:x<kK a):Aw b ((p1 (cD a b ((aF a b i).getD i (ae.mk (ar.mk (0:Int) (0:Int)) (0:Int) (0:Int) (0:Int))).pair i t (cq a b ((aF a b i).getD i (ae.mk (ar.mk (0:Int) (0:Int)) (0:Int) (0:Int) (0:Int))).pair i (aF a b i) t) x)).getD i 0) (t:Int) (x:Int):=by
 have u:=(Z8 h hi ht (b0n hx)).x2;rw[Ct u,Ry h hi ht (b0n hx)];exact a2Q h hi ht hx
def a3J{a b:U}{ls:List ae}{i t x:Nat}(h:U9 a ls i t x<0):decide (ZY b ls i t x<0)=nF ls (nG a b ls i t x) 0:=by
 unfold nF BT nG kU;simp[h]
def ZH{a b:U}{ls:List ae}{i t x:Nat}(h:¬ U9 a ls i t x<0):false=nF ls (nG a b ls i t x) 0:=by
 unfold nF BT nG kU;simp[h]
def ZI{ls:List ae}{q:ar}{k:Nat}(hk:k<ls.length)(w:nF ls q k=false):nF ls q (k+1)=(decide ((p0 ls).getD k 0=q.a0)&&decide ((p1 ls).getD k 0=q.a1)):=by
 unfold nF at w ⊢;rw[Bool.or_eq_false_iff] at w;rw[w.1,Bool.false_or,List.take_add_one,Cs hk,Ct hk];have e:ls[k]?.toList=[ls.getD k (ae.mk (ar.mk (0:Int) (0:Int)) (0:Int) (0:Int) (0:Int))]:=by simp[List.getD_eq_getElem?_getD,hk]
 rw[e];unfold kU at w ⊢;rw[List.any_append,w.2,Bool.false_or,List.any_cons,List.any_nil,Bool.or_false]
def a3L{a b:U}{ls:List ae}{i t x k:Nat}(hk:k<ls.length)(w:nF ls (nG a b ls i t x) k=false)(h:(p0 ls).getD k 0=U9 a ls i t x):decide ((p1 ls).getD k 0=ZY b ls i t x)=nF ls (nG a b ls i t x) (k+1):=by
 rw[ZI hk w];unfold nG;rw[h,decide_eq_true rfl,Bool.true_and]
def a3K{a b:U}{ls:List ae}{i t x k:Nat}(hk:k<ls.length)(w:nF ls (nG a b ls i t x) k=false)(h:¬ (p0 ls).getD k 0=U9 a ls i t x):false=nF ls (nG a b ls i t x) (k+1):=by
 rw[ZI hk w];unfold nG;rw[decide_eq_false h,Bool.false_and]
def a2F{a b:U}(h:AB a b){i t x k:Nat}(hi:i<(aF a b i).length)(ht:t<mK a)(hx:x<kK a)(w:nF (cD a b ((aF a b i).getD i (ae.mk (ar.mk (0:Int) (0:Int)) (0:Int) (0:Int) (0:Int))).pair i t (cq a b ((aF a b i).getD i (ae.mk (ar.mk (0:Int) (0:Int)) (0:Int) (0:Int) (0:Int))).pair i (aF a b i) t) x) (nG a b (cD a b ((aF a b i).getD i (ae.mk (ar.mk (0:Int) (0:Int)) (0:Int) (0:Int) (0:Int))).pair i t (cq a b ((aF a b i).getD i (ae.mk (ar.mk (0:Int) (0:Int)) (0:Int) (0:Int) (0:Int))).pair i (aF a b i) t) x) i t x) k=true):(cD a b ((aF a b i).getD i (ae.mk (ar.mk (0:Int) (0:Int)) (0:Int) (0:Int) (0:Int))).pair i t (cq a b ((aF a b i).getD i (ae.mk (ar.mk (0:Int) (0:Int)) (0:Int) (0:Int) (0:Int))).pair i (aF a b i) t) x)=(cD a b ((aF a b i).getD i (ae.mk (ar.mk (0:Int) (0:Int)) (0:Int) (0:Int) (0:Int))).pair i t (cq a b ((aF a b i).getD i (ae.mk (ar.mk (0:Int) (0:Int)) (0:Int) (0:Int) (0:Int))).pair i (aF a b i) t) (x+1)):=by
 rw[ZZ h hi ht (Nat.le_of_lt hx)] at w;unfold nF at w;rw[Bool.or_eq_true] at w;refine Z3 (ls:=(cD a b ((aF a b i).getD i (ae.mk (ar.mk (0:Int) (0:Int)) (0:Int) (0:Int) (0:Int))).pair i t (cq a b ((aF a b i).getD i (ae.mk (ar.mk (0:Int) (0:Int)) (0:Int) (0:Int) (0:Int))).pair i (aF a b i) t) x)) (q:=(Vb a b ((aF a b i).getD i (ae.mk (ar.mk (0:Int) (0:Int)) (0:Int) (0:Int) (0:Int))).pair i t x)) (w.imp id λ w=>?_);obtain⟨r,h1,h2⟩:=rJ.1 w;exact rJ.2 ⟨r,List.mem_of_mem_take h1,h2⟩
def a3P{a b:U}(h:AB a b){i t x k:Nat}(hi:i<(aF a b i).length)(ht:t<mK a)(hx:x<kK a)(w:nF (cD a b ((aF a b i).getD i (ae.mk (ar.mk (0:Int) (0:Int)) (0:Int) (0:Int) (0:Int))).pair i t (cq a b ((aF a b i).getD i (ae.mk (ar.mk (0:Int) (0:Int)) (0:Int) (0:Int) (0:Int))).pair i (aF a b i) t) x) (nG a b (cD a b ((aF a b i).getD i (ae.mk (ar.mk (0:Int) (0:Int)) (0:Int) (0:Int) (0:Int))).pair i t (cq a b ((aF a b i).getD i (ae.mk (ar.mk (0:Int) (0:Int)) (0:Int) (0:Int) (0:Int))).pair i (aF a b i) t) x) i t x) k=true):p0 (cD a b ((aF a b i).getD i (ae.mk (ar.mk (0:Int) (0:Int)) (0:Int) (0:Int) (0:Int))).pair i t (cq a b ((aF a b i).getD i (ae.mk (ar.mk (0:Int) (0:Int)) (0:Int) (0:Int) (0:Int))).pair i (aF a b i) t) x)=p0 (cD a b ((aF a b i).getD i (ae.mk (ar.mk (0:Int) (0:Int)) (0:Int) (0:Int) (0:Int))).pair i t (cq a b ((aF a b i).getD i (ae.mk (ar.mk (0:Int) (0:Int)) (0:Int) (0:Int) (0:Int))).pair i (aF a b i) t) (x+1)):=congrArg p0 (a2F h hi ht hx w)
def a3Q{a b:U}(h:AB a b){i t x k:Nat}(hi:i<(aF a b i).length)(ht:t<mK a)(hx:x<kK a)(w:nF (cD a b ((aF a b i).getD i (ae.mk (ar.mk (0:Int) (0:Int)) (0:Int) (0:Int) (0:Int))).pair i t (cq a b ((aF a b i).getD i (ae.mk (ar.mk (0:Int) (0:Int)) (0:Int) (0:Int) (0:Int))).pair i (aF a b i) t) x) (nG a b (cD a b ((aF a b i).getD i (ae.mk (ar.mk (0:Int) (0:Int)) (0:Int) (0:Int) (0:Int))).pair i t (cq a b ((aF a b i).getD i (ae.mk (ar.mk (0:Int) (0:Int)) (0:Int) (0:Int) (0:Int))).pair i (aF a b i) t) x) i t x) k=true):p1 (cD a b ((aF a b i).getD i (ae.mk (ar.mk (0:Int) (0:Int)) (0:Int) (0:Int) (0:Int))).pair i t (cq a b ((aF a b i).getD i (ae.mk (ar.mk (0:Int) (0:Int)) (0:Int) (0:Int) (0:Int))).pair i (aF a b i) t) x)=p1 (cD a b ((aF a b i).getD i (ae.mk (ar.mk (0:Int) (0:Int)) (0:Int) (0:Int) (0:Int))).pair i t (cq a b ((aF a b i).getD i (ae.mk (ar.mk (0:Int) (0:Int)) (0:Int) (0:Int) (0:Int))).pair i (aF a b i) t) (x+1)):=congrArg p1 (a2F h hi ht hx w)
def a2E{a b:U}(h:AB a b){i t x k:Nat}(hi:i<(aF a b i).length)(ht:t<mK a)(hx:x<kK a)(w:nF (cD a b ((aF a b i).getD i (ae.mk (ar.mk (0:Int) (0:Int)) (0:Int) (0:Int) (0:Int))).pair i t (cq a b ((aF a b i).getD i (ae.mk (ar.mk (0:Int) (0:Int)) (0:Int) (0:Int) (0:Int))).pair i (aF a b i) t) x) (nG a b (cD a b ((aF a b i).getD i (ae.mk (ar.mk (0:Int) (0:Int)) (0:Int) (0:Int) (0:Int))).pair i t (cq a b ((aF a b i).getD i (ae.mk (ar.mk (0:Int) (0:Int)) (0:Int) (0:Int) (0:Int))).pair i (aF a b i) t) x) i t x) k=false)(hk:¬ k<(cD a b ((aF a b i).getD i (ae.mk (ar.mk (0:Int) (0:Int)) (0:Int) (0:Int) (0:Int))).pair i t (cq a b ((aF a b i).getD i (ae.mk (ar.mk (0:Int) (0:Int)) (0:Int) (0:Int) (0:Int))).pair i (aF a b i) t) x).length):(cD a b ((aF a b i).getD i (ae.mk (ar.mk (0:Int) (0:Int)) (0:Int) (0:Int) (0:Int))).pair i t (cq a b ((aF a b i).getD i (ae.mk (ar.mk (0:Int) (0:Int)) (0:Int) (0:Int) (0:Int))).pair i (aF a b i) t) x)++[ae.mk (nG a b (cD a b ((aF a b i).getD i (ae.mk (ar.mk (0:Int) (0:Int)) (0:Int) (0:Int) (0:Int))).pair i t (cq a b ((aF a b i).getD i (ae.mk (ar.mk (0:Int) (0:Int)) (0:Int) (0:Int) (0:Int))).pair i (aF a b i) t) x) i t x) (i:Int) (t:Int) (x:Int)]=(cD a b ((aF a b i).getD i (ae.mk (ar.mk (0:Int) (0:Int)) (0:Int) (0:Int) (0:Int))).pair i t (cq a b ((aF a b i).getD i (ae.mk (ar.mk (0:Int) (0:Int)) (0:Int) (0:Int) (0:Int))).pair i (aF a b i) t) (x+1)):=by
 rw[ZZ h hi ht (Nat.le_of_lt hx)] at w ⊢;unfold nF at w;rw[Bool.or_eq_false_iff,List.take_of_length_le (by omega)] at w;refine Z1 (ls:=(cD a b ((aF a b i).getD i (ae.mk (ar.mk (0:Int) (0:Int)) (0:Int) (0:Int) (0:Int))).pair i t (cq a b ((aF a b i).getD i (ae.mk (ar.mk (0:Int) (0:Int)) (0:Int) (0:Int) (0:Int))).pair i (aF a b i) t) x)) (q:=(Vb a b ((aF a b i).getD i (ae.mk (ar.mk (0:Int) (0:Int)) (0:Int) (0:Int) (0:Int))).pair i t x)) ?_;show ¬ (BT (Va a b ((aF a b i).getD i (ae.mk (ar.mk (0:Int) (0:Int)) (0:Int) (0:Int) (0:Int))).pair t x)=true\/kU (cD a b ((aF a b i).getD i (ae.mk (ar.mk (0:Int) (0:Int)) (0:Int) (0:Int) (0:Int))).pair i t (cq a b ((aF a b i).getD i (ae.mk (ar.mk (0:Int) (0:Int)) (0:Int) (0:Int) (0:Int))).pair i (aF a b i) t) x) (Va a b ((aF a b i).getD i (ae.mk (ar.mk (0:Int) (0:Int)) (0:Int) (0:Int) (0:Int))).pair t x)=true);rw[w.1,w.2];simp
def a3M{a b:U}(h:AB a b){i t x k:Nat}(hi:i<(aF a b i).length)(ht:t<mK a)(hx:x<kK a)(w:nF (cD a b ((aF a b i).getD i (ae.mk (ar.mk (0:Int) (0:Int)) (0:Int) (0:Int) (0:Int))).pair i t (cq a b ((aF a b i).getD i (ae.mk (ar.mk (0:Int) (0:Int)) (0:Int) (0:Int) (0:Int))).pair i (aF a b i) t) x) (nG a b (cD a b ((aF a b i).getD i (ae.mk (ar.mk (0:Int) (0:Int)) (0:Int) (0:Int) (0:Int))).pair i t (cq a b ((aF a b i).getD i (ae.mk (ar.mk (0:Int) (0:Int)) (0:Int) (0:Int) (0:Int))).pair i (aF a b i) t) x) i t x) k=false)(hk:¬ k<(cD a b ((aF a b i).getD i (ae.mk (ar.mk (0:Int) (0:Int)) (0:Int) (0:Int) (0:Int))).pair i t (cq a b ((aF a b i).getD i (ae.mk (ar.mk (0:Int) (0:Int)) (0:Int) (0:Int) (0:Int))).pair i (aF a b i) t) x).length):p0 (cD a b ((aF a b i).getD i (ae.mk (ar.mk (0:Int) (0:Int)) (0:Int) (0:Int) (0:Int))).pair i t (cq a b ((aF a b i).getD i (ae.mk (ar.mk (0:Int) (0:Int)) (0:Int) (0:Int) (0:Int))).pair i (aF a b i) t) x)++[U9 a (cD a b ((aF a b i).getD i (ae.mk (ar.mk (0:Int) (0:Int)) (0:Int) (0:Int) (0:Int))).pair i t (cq a b ((aF a b i).getD i (ae.mk (ar.mk (0:Int) (0:Int)) (0:Int) (0:Int) (0:Int))).pair i (aF a b i) t) x) i t x]=p0 (cD a b ((aF a b i).getD i (ae.mk (ar.mk (0:Int) (0:Int)) (0:Int) (0:Int) (0:Int))).pair i t (cq a b ((aF a b i).getD i (ae.mk (ar.mk (0:Int) (0:Int)) (0:Int) (0:Int) (0:Int))).pair i (aF a b i) t) (x+1)):=by
 rw[<-a2E h hi ht hx w hk];simp[p0,nG]
def a3N{a b:U}(h:AB a b){i t x k:Nat}(hi:i<(aF a b i).length)(ht:t<mK a)(hx:x<kK a)(w:nF (cD a b ((aF a b i).getD i (ae.mk (ar.mk (0:Int) (0:Int)) (0:Int) (0:Int) (0:Int))).pair i t (cq a b ((aF a b i).getD i (ae.mk (ar.mk (0:Int) (0:Int)) (0:Int) (0:Int) (0:Int))).pair i (aF a b i) t) x) (nG a b (cD a b ((aF a b i).getD i (ae.mk (ar.mk (0:Int) (0:Int)) (0:Int) (0:Int) (0:Int))).pair i t (cq a b ((aF a b i).getD i (ae.mk (ar.mk (0:Int) (0:Int)) (0:Int) (0:Int) (0:Int))).pair i (aF a b i) t) x) i t x) k=false)(hk:¬ k<(cD a b ((aF a b i).getD i (ae.mk (ar.mk (0:Int) (0:Int)) (0:Int) (0:Int) (0:Int))).pair i t (cq a b ((aF a b i).getD i (ae.mk (ar.mk (0:Int) (0:Int)) (0:Int) (0:Int) (0:Int))).pair i (aF a b i) t) x).length):p1 (cD a b ((aF a b i).getD i (ae.mk (ar.mk (0:Int) (0:Int)) (0:Int) (0:Int) (0:Int))).pair i t (cq a b ((aF a b i).getD i (ae.mk (ar.mk (0:Int) (0:Int)) (0:Int) (0:Int) (0:Int))).pair i (aF a b i) t) x)++[ZY b (cD a b ((aF a b i).getD i (ae.mk (ar.mk (0:Int) (0:Int)) (0:Int) (0:Int) (0:Int))).pair i t (cq a b ((aF a b i).getD i (ae.mk (ar.mk (0:Int) (0:Int)) (0:Int) (0:Int) (0:Int))).pair i (aF a b i) t) x) i t x]=p1 (cD a b ((aF a b i).getD i (ae.mk (ar.mk (0:Int) (0:Int)) (0:Int) (0:Int) (0:Int))).pair i t (cq a b ((aF a b i).getD i (ae.mk (ar.mk (0:Int) (0:Int)) (0:Int) (0:Int) (0:Int))).pair i (aF a b i) t) (x+1)):=by
 rw[<-a2E h hi ht hx w hk];simp[p1,nG]
def xv:aW:=⟨xG,[.r (.st .automaton), .r (.st .automaton)],λ (a:U) (b:U)=>⟨(some (AB a b),[⟨(.slice (.int .i64)),p0 (cQ a b)⟩,⟨(.slice (.int .i64)),p1 (cQ a b)⟩])⟩⟩
def I5(a:U)(b:U):Nat->aL:=(eS 0 (.mk (Nat) (λ i=>i<=(aF a b i).length) (λ i=>3722 - i) [] [4,5,15,16] (λ i=>[(8, .aQ ⟨(.int .i64),((i:Int):Int)⟩),(6, .row 15),(7, .row 16)]) [] (λ i=>[(15, .row mL (.int .i64) (p0 (aF a b i):List Int)),(16, .row mL (.int .i64) (p1 (aF a b i):List Int))]) [] [] (λ i=>(eS 2 (.mk (Nat) (λ t=>t<=mK a/\i<(aF a b i).length) (λ t=>mK a - t) [] [17,18,19,20] (λ t=>[(9, .aQ ⟨(.int .i64),((t:Int):Int)⟩),(6, .row 15),(7, .row 16)]) [] (λ t=>[(15, .row mL (.int .i64) (p0 (cq a b ((aF a b i).getD i (ae.mk (ar.mk (0:Int) (0:Int)) (0:Int) (0:Int) (0:Int))).pair i (aF a b i) t):List Int)),(16, .row mL (.int .i64) (p1 (cq a b ((aF a b i).getD i (ae.mk (ar.mk (0:Int) (0:Int)) (0:Int) (0:Int) (0:Int))).pair i (aF a b i) t):List Int))]) [] [] (λ t=>(eS 4 (.mk (Nat) (λ x=>x<=kK a/\t<mK a) (λ x=>kK a - x) [] [23,24,25,26,27,28,29] (λ x=>[(10, .aQ ⟨(.int .i64),((x:Int):Int)⟩),(6, .row 15),(7, .row 16)]) [] (λ x=>[(15, .row mL (.int .i64) (p0 (cD a b ((aF a b i).getD i (ae.mk (ar.mk (0:Int) (0:Int)) (0:Int) (0:Int) (0:Int))).pair i t (cq a b ((aF a b i).getD i (ae.mk (ar.mk (0:Int) (0:Int)) (0:Int) (0:Int) (0:Int))).pair i (aF a b i) t) x):List Int)),(16, .row mL (.int .i64) (p1 (cD a b ((aF a b i).getD i (ae.mk (ar.mk (0:Int) (0:Int)) (0:Int) (0:Int) (0:Int))).pair i t (cq a b ((aF a b i).getD i (ae.mk (ar.mk (0:Int) (0:Int)) (0:Int) (0:Int) (0:Int))).pair i (aF a b i) t) x):List Int))]) [] [] (λ x=>(eS 6 (.a (Nat) (λ k=>k<=(cD a b ((aF a b i).getD i (ae.mk (ar.mk (0:Int) (0:Int)) (0:Int) (0:Int) (0:Int))).pair i t (cq a b ((aF a b i).getD i (ae.mk (ar.mk (0:Int) (0:Int)) (0:Int) (0:Int) (0:Int))).pair i (aF a b i) t) x).length/\x<kK a) (λ k=>(cD a b ((aF a b i).getD i (ae.mk (ar.mk (0:Int) (0:Int)) (0:Int) (0:Int) (0:Int))).pair i t (cq a b ((aF a b i).getD i (ae.mk (ar.mk (0:Int) (0:Int)) (0:Int) (0:Int) (0:Int))).pair i (aF a b i) t) x).length - k) [32,33,34,35,36,37,38,41,42,43,44,45,46,47,48,49,50,51,52,53,54,55,56,57,58,59,60,61,62] (λ k=>[(14, .aQ ⟨(.int .i64),((k:Int):Int)⟩),(13, .aQ ⟨.bool,(nF (cD a b ((aF a b i).getD i (ae.mk (ar.mk (0:Int) (0:Int)) (0:Int) (0:Int) (0:Int))).pair i t (cq a b ((aF a b i).getD i (ae.mk (ar.mk (0:Int) (0:Int)) (0:Int) (0:Int) (0:Int))).pair i (aF a b i) t) x) (nG a b (cD a b ((aF a b i).getD i (ae.mk (ar.mk (0:Int) (0:Int)) (0:Int) (0:Int) (0:Int))).pair i t (cq a b ((aF a b i).getD i (ae.mk (ar.mk (0:Int) (0:Int)) (0:Int) (0:Int) (0:Int))).pair i (aF a b i) t) x) i t x) k:Bool)⟩)]) [15,16] (λ k=>[])) cB))) cB))) cB))) cB)
abbrev sV(a:U)(b:U)(i1:Nat)(t2:Nat)(x3:Nat):Prop:=(let v1:=(aF a b i1).getD i1 (ae.mk (ar.mk (0:Int) (0:Int)) (0:Int) (0:Int) (0:Int));let v0:=cD a b v1.pair i1 t2 (cq a b v1.pair i1 (aF a b i1) t2) x3;((p0 v0)=(p0 v0)/\((p1 v0)=(p1 v0)/\True)))
abbrev E7(a:U)(b:U)(i1:Nat)(t2:Nat)(x3:Nat)(k4:Nat):Prop:=(let v4:=(0:Int);let v3:=(aF a b i1).getD i1 (ae.mk (ar.mk v4 v4) v4 v4 v4);let v0:=cD a b v3.pair i1 t2 (cq a b v3.pair i1 (aF a b i1) t2) x3;let v5:=(k4:Int)+(1:Int);let v6:=(t2:Int);let v7:=(x3:Int);let v1:=fY a ((p0 v0).getD i1 v4) v6 v7;let v2:=fY b ((p1 v0).getD i1 v4) v6 v7;let v8:=(p0 v0).getD k4 v4;let v9:=sV a b i1 t2 x3;(aE (k4:Int) (p0 v0).length/\(au v8 ->
 (((decide (v8=v1))=true ->
 (aE (k4:Int) (p1 v0).length/\(au ((p1 v0).getD k4 v4) ->
 (au v5/\(∃ k5:Nat,((k5<=v0.length/\x3<kK a)/\(v0.length - k5<v0.length - k4/\((a=a/\(b=b/\(True/\(True/\((i1:Int)=(i1:Int)/\(v6=v6/\(v7=v7/\(v1=v1/\(v2=v2/\((decide (((p1 v0).getD k4 v4)=v2))=(nF v0 (nG a b v0 i1 t2 x3) k5)/\(v5=(k5:Int)/\True)))))))))))/\v9))))))))/\((decide (v8=v1))=(!true) ->
 (au v5/\(∃ k5:Nat,((k5<=v0.length/\x3<kK a)/\(v0.length - k5<v0.length - k4/\((a=a/\(b=b/\(True/\(True/\((i1:Int)=(i1:Int)/\(v6=v6/\(v7=v7/\(v1=v1/\(v2=v2/\(false=(nF v0 (nG a b v0 i1 t2 x3) k5)/\(v5=(k5:Int)/\True)))))))))))/\v9))))))))))
abbrev sW(a:U)(b:U)(i1:Nat)(t2:Nat)(x3:Nat)(x5:Nat):Prop:=(a=a/\(b=b/\(True/\(True/\((i1:Int)=(i1:Int)/\((t2:Int)=(t2:Int)/\(((x3:Int)+(1:Int))=(x5:Int)/\True)))))))
abbrev E8(a:U)(b:U)(i1:Nat)(t2:Nat)(x3:Nat)(k4:Nat):Prop:=(let v5:=(0:Int);let v0:=(aF a b i1).getD i1 (ae.mk (ar.mk v5 v5) v5 v5 v5);let v2:=cq a b v0.pair i1 (aF a b i1) t2;let v1:=cD a b v0.pair i1 t2 v2 x3;let v3:=[(fY a ((p0 v1).getD i1 v5) (t2:Int) (x3:Int))];let v4:=[(fY b ((p1 v1).getD i1 v5) (t2:Int) (x3:Int))];let v6 := !(nF v1 (nG a b v1 i1 t2 x3) k4);((v6=true ->
 (bB ((p0 v1).length+v3.length) 8/\(bB ((p1 v1).length+v4.length) 8/\(au ((x3:Int)+(1:Int))/\(∃ x5:Nat,((x5<=kK a/\t2<mK a)/\(kK a - x5<kK a - x3/\((sW a b i1 t2 x3 x5)/\(((p0 v1)++v3)=(p0 (cD a b v0.pair i1 t2 v2 x5))/\(((p1 v1)++v4)=(p1 (cD a b v0.pair i1 t2 v2 x5))/\True))))))))))/\(v6=false ->
 (au ((x3:Int)+(1:Int))/\(∃ x5:Nat,((x5<=kK a/\t2<mK a)/\(kK a - x5<kK a - x3/\((sW a b i1 t2 x3 x5)/\((p0 v1)=(p0 (cD a b v0.pair i1 t2 v2 x5))/\((p1 v1)=(p1 (cD a b v0.pair i1 t2 v2 x5))/\True))))))))))
abbrev E9(a:U)(b:U)(i1:Nat)(t2:Nat)(x3:Nat):Prop:=(let v1:=(aF a b i1).getD i1 (ae.mk (ar.mk (0:Int) (0:Int)) (0:Int) (0:Int) (0:Int));let v0:=cD a b v1.pair i1 t2 (cq a b v1.pair i1 (aF a b i1) t2) x3;let v2:=((p0 v0).length:Int);(∀ k4:Nat,let v3 := !(nF v0 (nG a b v0 i1 t2 x3) k4);let v4:=E7 a b i1 t2 x3 k4;let v5:=E8 a b i1 t2 x3 k4;((k4<=v0.length/\x3<kK a) ->
 (au v2 ->
 (((decide ((k4:Int)<v2))=true ->
 ((v3=true ->
 v4)/\(v3=false ->
 v5)))/\((decide ((k4:Int)<v2))=(!true) ->
 ((false=true ->
 v4)/\(false=false ->
 v5))))))))
def C9:aW.Good xv:=by
 refine⟨aD uz,?_⟩;intro (a:U) (b:U) (hp:AB a b);refine aV [hJ,DE] [] [] [] ⟨gN,Iy,af⟩ uz CY (I5 a b) (let v1:=(0:Int);let v0:=ae.mk (ar.mk v1 v1) v1 v1 v1;(((∃ i1:Nat,(i1<=(aF a b i1).length/\((a=a/\(b=b/\(True/\(True/\(v1=(i1:Int)/\True)))))/\(([v1])=(p0 (aF a b i1))/\(([v1])=(p1 (aF a b i1))/\True)))))/\(∀ i1:Nat,let v3:=aF a b i1;let v2:=v3.getD i1 v0;let v4:=(i1:Int);let v5:=((p0 v3).length:Int);(i1<=v3.length->(au v5->(((decide (v4<v5))=true->((∃ t2:Nat,((t2<=mK a/\i1<v3.length)/\((a=a/\(b=b/\(True/\(True/\(v4=v4/\(v1=(t2:Int)/\True))))))/\((p0 v3)=(p0 (cq a b v2.pair i1 v3 t2))/\((p1 v3)=(p1 (cq a b v2.pair i1 v3 t2))/\True)))))/\(∀ t2:Nat,let v6:=cq a b v2.pair i1 v3 t2;let v7:=(t2:Int);((t2<=mK a/\i1<v3.length)->((0<=a.sig.aS/\a.sig.aS<=3)/\(au (bA a.sig)->(((decide (v7<(bA a.sig)))=true->((∃ x3:Nat,((x3<=kK a/\t2<mK a)/\((a=a/\(b=b/\(True/\(True/\(v4=v4/\(v7=v7/\(v1=(x3:Int)/\True)))))))/\((p0 v6)=(p0 (cD a b v2.pair i1 t2 v6 x3))/\((p1 v6)=(p1 (cD a b v2.pair i1 t2 v6 x3))/\True)))))/\(∀ x3:Nat,let v8:=cD a b v2.pair i1 t2 v6 x3;let vb:=(x3:Int);let vc:=(p0 v8).getD i1 v1;let v9:=fY a vc v7 vb;let vd:=(p1 v8).getD i1 v1;let va:=fY b vd v7 vb;let ve:=sV a b i1 t2 x3;let vf:=E9 a b i1 t2 x3;((x3<=kK a/\t2<mK a)->(au a.sig.av->(((decide (vb<a.sig.av))=true->(aE v4 (p0 v8).length/\(au vc->(Aw a vc v7 vb/\(au v9->(aE v4 (p1 v8).length/\(au vd->(Aw b vd v7 vb/\(au va->(((decide (v9<v1))=true->((∃ k4:Nat,((k4<=v8.length/\x3<kK a)/\((a=a/\(b=b/\(True/\(True/\(v4=v4/\(v7=v7/\(vb=vb/\(v9=v9/\(va=va/\((decide (va<v1))=(nF v8 (nG a b v8 i1 t2 x3) k4)/\(v1=(k4:Int)/\True)))))))))))/\ve)))/\vf))/\((decide (v9<v1))=(!true)->((∃ k4:Nat,((k4<=v8.length/\x3<kK a)/\((a=a/\(b=b/\(True/\(True/\(v4=v4/\(v7=v7/\(vb=vb/\(v9=v9/\(va=va/\(false=(nF v8 (nG a b v8 i1 t2 x3) k4)/\(v1=(k4:Int)/\True)))))))))))/\ve)))/\vf))))))))))))/\((decide (vb<a.sig.av))=false->(au (v7+(1:Int))/\(∃ t4:Nat,((t4<=mK a/\i1<v3.length)/\(mK a - t4<mK a - t2/\((a=a/\(b=b/\(True/\(True/\(v4=v4/\((v7+(1:Int))=(t4:Int)/\True))))))/\((p0 v8)=(p0 (cq a b v2.pair i1 v3 t4))/\((p1 v8)=(p1 (cq a b v2.pair i1 v3 t4))/\True))))))))))))))/\((decide (v7<(bA a.sig)))=false->(au (v4+(1:Int))/\(∃ i3:Nat,(i3<=(aF a b i3).length/\(3722 - i3<3722 - i1/\((a=a/\(b=b/\(True/\(True/\((v4+(1:Int))=(i3:Int)/\True)))))/\((p0 v6)=(p0 (aF a b i3))/\((p1 v6)=(p1 (aF a b i3))/\True)))))))))))))))/\((decide (v4<v5))=false->((p0 v3)=(p0 (cQ a b))/\(p1 v3)=(p1 (cQ a b))))))))))) ?_;have ha:=hp.ka;have hb:=hp.kb;have n1:(bA a.sig)=(mK a:Int):=ha.lens.2.2.2.1.symm;have n2:a.sig.av=(kK a:Int):=ha.lens.2.2.2.2.symm;have n4:=(dW a.sig).1 ha.s;have n5:=ha.lens;refine⟨⟨0,?_,⟨rfl,rfl,af,af,?_,af⟩,?_,?_,af⟩,λ i1 _ _=>⟨λ _=>⟨⟨0,?_,⟨rfl,rfl,af,af,rfl,?_,af⟩,?_,?_,af⟩,λ t2 _=>⟨?_,λ _=>⟨λ _=>⟨⟨0,?_,⟨rfl,rfl,af,af,rfl,rfl,?_,af⟩,?_,?_,af⟩,λ x3 _ _=>⟨λ _=>⟨?_,λ _=>⟨?_,λ _=>⟨?_,λ _=>⟨?_,λ _=>⟨λ _=>⟨⟨0,?_,⟨rfl,rfl,af,af,rfl,rfl,rfl,rfl,rfl,?_,?_,af⟩,rfl,rfl,af⟩,λ k4 _ _=>⟨λ _=>⟨λ _=>⟨?_,λ _=>⟨λ _=>⟨?_,λ _=>⟨?_,k4+1,?_,?_,⟨rfl,rfl,af,af,rfl,rfl,rfl,rfl,rfl,?_,?_,af⟩,rfl,rfl,af⟩⟩,λ _=>⟨?_,k4+1,?_,?_,⟨rfl,rfl,af,af,rfl,rfl,rfl,rfl,rfl,?_,?_,af⟩,rfl,rfl,af⟩⟩⟩,λ _=>⟨λ _=>⟨?_,?_,?_,x3+1,?_,?_,⟨rfl,rfl,af,af,rfl,rfl,?_,af⟩,?_,?_,af⟩,λ _=>⟨?_,x3+1,?_,?_,⟨rfl,rfl,af,af,rfl,rfl,?_,af⟩,?_,?_,af⟩⟩⟩,λ _=>⟨λ _=>⟨?_,λ _=>⟨λ _=>⟨?_,λ _=>⟨?_,k4+1,?_,?_,⟨rfl,rfl,af,af,rfl,rfl,rfl,rfl,rfl,?_,?_,af⟩,rfl,rfl,af⟩⟩,λ _=>⟨?_,k4+1,?_,?_,⟨rfl,rfl,af,af,rfl,rfl,rfl,rfl,rfl,?_,?_,af⟩,rfl,rfl,af⟩⟩⟩,λ _=>⟨λ _=>⟨?_,?_,?_,x3+1,?_,?_,⟨rfl,rfl,af,af,rfl,rfl,?_,af⟩,?_,?_,af⟩,λ _=>⟨?_,x3+1,?_,?_,⟨rfl,rfl,af,af,rfl,rfl,?_,af⟩,?_,?_,af⟩⟩⟩⟩⟩,λ _=>⟨⟨0,?_,⟨rfl,rfl,af,af,rfl,rfl,rfl,rfl,rfl,?_,?_,af⟩,rfl,rfl,af⟩,λ k4 _ _=>⟨λ _=>⟨λ _=>⟨?_,λ _=>⟨λ _=>⟨?_,λ _=>⟨?_,k4+1,?_,?_,⟨rfl,rfl,af,af,rfl,rfl,rfl,rfl,rfl,?_,?_,af⟩,rfl,rfl,af⟩⟩,λ _=>⟨?_,k4+1,?_,?_,⟨rfl,rfl,af,af,rfl,rfl,rfl,rfl,rfl,?_,?_,af⟩,rfl,rfl,af⟩⟩⟩,λ _=>⟨λ _=>⟨?_,?_,?_,x3+1,?_,?_,⟨rfl,rfl,af,af,rfl,rfl,?_,af⟩,?_,?_,af⟩,λ _=>⟨?_,x3+1,?_,?_,⟨rfl,rfl,af,af,rfl,rfl,?_,af⟩,?_,?_,af⟩⟩⟩,λ _=>⟨λ _=>⟨?_,λ _=>⟨λ _=>⟨?_,λ _=>⟨?_,k4+1,?_,?_,⟨rfl,rfl,af,af,rfl,rfl,rfl,rfl,rfl,?_,?_,af⟩,rfl,rfl,af⟩⟩,λ _=>⟨?_,k4+1,?_,?_,⟨rfl,rfl,af,af,rfl,rfl,rfl,rfl,rfl,?_,?_,af⟩,rfl,rfl,af⟩⟩⟩,λ _=>⟨λ _=>⟨?_,?_,?_,x3+1,?_,?_,⟨rfl,rfl,af,af,rfl,rfl,?_,af⟩,?_,?_,af⟩,λ _=>⟨?_,x3+1,?_,?_,⟨rfl,rfl,af,af,rfl,rfl,?_,af⟩,?_,?_,af⟩⟩⟩⟩⟩⟩⟩⟩⟩⟩,λ _=>⟨?_,t2+1,?_,?_,⟨rfl,rfl,af,af,rfl,?_,af⟩,?_,?_,af⟩⟩⟩,λ _=>⟨?_,i1+1,?_,?_,⟨rfl,rfl,af,af,?_,af⟩,?_,?_,af⟩⟩⟩⟩,λ _=>⟨?_,?_⟩⟩⟩;all_goals try and_intros
 all_goals (try simp only[a7V,a8e,a7D,a7C,aE,au,bB,cN,a8t,a9p,a8C,b0j,a8x,a8s,a8j,a9m,Wb,Wc,a7K,a7I,a7T,a8A] at *);first|done|with_reducible assumption|omega|with_reducible rfl|exact trivial|(have q0:=Rx hp i1;obtain⟨_,_⟩:=q0;omega)|(have q0:=Rx hp i1;obtain⟨_,_⟩:=q0;have q0:=rnT hp (i:=i1) (t:=t2) (by omega) (by omega);obtain⟨_,_⟩:=q0;omega)|(have q0:=Rx hp i1;obtain⟨_,_⟩:=q0;have q0:=rnT hp (i:=i1) (t:=t2) (by omega) (by omega);obtain⟨_,_⟩:=q0;have q0:=Z8 hp (i:=i1) (t:=t2) (x:=x3) (by omega) (by omega) (by omega);obtain⟨_,_⟩:=q0;omega)|exact a3O (by with_reducible assumption) (by with_reducible assumption)|exact pz0 a b|exact pz1 a b|exact qn0 hp (by omega) (by omega) (by omega)|exact qn1 hp (by omega) (by omega) (by omega)|exact a3J (by with_reducible assumption)|exact ZH (by with_reducible assumption)|exact ZH (by omega)|exact a3L (by omega) (by with_reducible assumption) (by with_reducible assumption)|exact a3K (by omega) (by with_reducible assumption) (by with_reducible assumption)|exact a3P hp (by omega) (by omega) (by omega) (by with_reducible assumption)|exact a3Q hp (by omega) (by omega) (by omega) (by with_reducible assumption)|exact a3M hp (by omega) (by omega) (by omega) (by with_reducible assumption) (by omega)|exact a3N hp (by omega) (by omega) (by omega) (by with_reducible assumption) (by omega)|exact congrArg p0 rzT|exact congrArg p0 rzX|exact congrArg p1 rzT|exact congrArg p1 rzX|exact congrArg p0 (rxT (by omega))|exact congrArg p0 (rtI (by omega) (by omega))|(have q0:=Rx hp i1;obtain⟨_,_⟩:=q0;exact congrArg p0 (NT (i:=i1) (by omega) (by omega)))|exact congrArg p1 (rxT (by omega))|exact congrArg p1 (rtI (by omega) (by omega))|(have q0:=Rx hp i1;obtain⟨_,_⟩:=q0;exact congrArg p1 (NT (i:=i1) (by omega) (by omega)))|exact Wd hp (by omega)
def OD(a b:U)(r:ae)(t:Nat):Prop:=me a r.pair.a0 (t:Int)=me b r.pair.a1 (t:Int)
def Pb(a b:U)(r:ae)(t:Nat):Prop:=me a r.pair.a0 (t:Int)=true->me b r.pair.a1 (t:Int)=true
noncomputable def uB(a b:U):Bool := @decide (∀ i,i<(cQ a b).length->∀ t,t<mK a->OD a b ((cQ a b).getD i (ae.mk (ar.mk (0:Int) (0:Int)) (0:Int) (0:Int) (0:Int))) t) (Classical.propDecidable _)
noncomputable def Ca(a b:U):Bool := @decide (∀ i,i<(cQ a b).length->∀ t,t<mK a->Pb a b ((cQ a b).getD i (ae.mk (ar.mk (0:Int) (0:Int)) (0:Int) (0:Int) (0:Int))) t) (Classical.propDecidable _)
def Mw{a b:U}:uB a b=true↔∀ i,i<(cQ a b).length->∀ t,t<mK a->OD a b ((cQ a b).getD i (ae.mk (ar.mk (0:Int) (0:Int)) (0:Int) (0:Int) (0:Int))) t := @b1O _ (Classical.propDecidable _)
def LM{a b:U}:Ca a b=true↔∀ i,i<(cQ a b).length->∀ t,t<mK a->Pb a b ((cQ a b).getD i (ae.mk (ar.mk (0:Int) (0:Int)) (0:Int) (0:Int) (0:Int))) t := @b1O _ (Classical.propDecidable _)
def Ws(ls:List ae)(i:Nat):(ls.map Aq).getD i (ae.mk (ar.mk (0:Int) (0:Int)) (0:Int) (0:Int) (0:Int))=Aq (ls.getD i (ae.mk (ar.mk (0:Int) (0:Int)) (0:Int) (0:Int) (0:Int))):=by
 simp only[a7G,a8T];cases ls[i]?<;>rfl
def a0I{a b:U}(h:AB a b):(Ca a b&&Ca b a)=uB a b:=by
 have e:mK b=mK a:=by simp only[mK,h.ks]
 rw[b1l,a7H,LM,LM,Mw,a6m h,a8n];constructor
 .rintro⟨h1,h2⟩ i hi t ht;have k1:=h1 i hi t ht;have k2:=h2 i hi t (by omega);rw[Ws] at k2;unfold OD;unfold Pb at k1 k2;simp only[Aq] at k2;exact Bool.eq_iff_iff.2 ⟨k1,k2⟩
 .intro h1;refine⟨λ i hi t ht=>?_,λ i hi t ht=>?_⟩
  .have:=h1 i hi t ht;unfold OD at this;unfold Pb;rw[this];exact id
  .have:=h1 i hi t (by omega);rw[Ws];unfold OD at this;unfold Pb;simp only[Aq];rw[this];exact id
structure oS(a b:U)(i t:Nat):Prop where
 hi:i<=(cQ a b).length
 ht:t<=mK a
 p:∀ j,j<i->∀ s,s<mK a->OD a b ((cQ a b).getD j (ae.mk (ar.mk (0:Int) (0:Int)) (0:Int) (0:Int) (0:Int))) s
 q:∀ s,s<t->OD a b ((cQ a b).getD i (ae.mk (ar.mk (0:Int) (0:Int)) (0:Int) (0:Int) (0:Int))) s
def oS.first(a b:U):oS a b 0 0:=⟨a8r _,a8r _,λ j hj=>by omega,λ s hs=>by omega⟩
def oS.step{a b:U}{i t:Nat}(h:oS a b i t)(ht:t<mK a)(e:OD a b ((cQ a b).getD i (ae.mk (ar.mk (0:Int) (0:Int)) (0:Int) (0:Int) (0:Int))) t):oS a b i (t+1):=⟨h.hi,ht,h.p,λ s hs=>by
 rcases a8m s t with r|r
 .exact h.q s r
 .rw[show s=t by omega];exact e⟩
def oS.row{a b:U}{i t:Nat}(h:oS a b i t)(hi:i<(cQ a b).length)(ht:¬ t<mK a):oS a b (i+1) 0:=⟨hi,a8r _,λ j hj s hs=>by
 rcases a8m j i with r|r
 .exact h.p j r s hs
 .rw[show j=i by omega];exact h.q s (by omega),λ s hs=>by omega⟩
def oS.done{a b:U}{i t:Nat}(h:oS a b i t)(hi:¬ i<(cQ a b).length):uB a b=true:=Mw.2 λ j hj s hs=>h.p j (by omega) s hs
structure As(a b:U)(p:Nat×Nat):Prop where
 d:oS a b p.1 p.2
 i:p.1<(cQ a b).length
 t:p.2<mK a
 n:¬ OD a b ((cQ a b).getD p.1 (ae.mk (ar.mk (0:Int) (0:Int)) (0:Int) (0:Int) (0:Int))) p.2
def As.uniq{a b:U}{p q:Nat×Nat}(h:As a b p)(k:As a b q):p=q:=by
 obtain⟨h1,h2,h3,h4⟩:=h;obtain⟨k1,k2,k3,k4⟩:=k;obtain⟨i,t⟩:=p;obtain⟨j,s⟩:=q;simp only at h1 h2 h3 h4 k1 k2 k3 k4;rcases b0R i j with r|r|r
 .exact absurd (k1.p i r t h3) h4
 .subst r;rcases b0R t s with r|r|r
  .exact absurd (k1.q t r) h4
  .rw[r]
  .exact absurd (h1.q s r) k4
 .exact absurd (h1.p j r s k3) k4
noncomputable def Qt(a b:U):Nat×Nat:=by classical exact if h:∃ p,As a b p then h.choose else (0,0)
def Qu{a b:U}{p:Nat×Nat}(h:As a b p):Qt a b=p:=by
 unfold Qt;rw[dif_pos ⟨p,h⟩];exact (Exists.choose_spec (⟨p,h⟩:∃ p,As a b p)).uniq h
def Lw{a b:U}{p:Nat×Nat}(h:As a b p):uB a b=false:=by
 rw[b0Q];intro q;exact h.n (Mw.1 q _ h.i _ h.t)
def H9(ls:List ae):Nat->Nat->List Int
 | 0,_=>[]
 | n+1,k=>if 0<=(ls.getD k (ae.mk (ar.mk (0:Int) (0:Int)) (0:Int) (0:Int) (0:Int))).mJ then (ls.getD k (ae.mk (ar.mk (0:Int) (0:Int)) (0:Int) (0:Int) (0:Int))).atom::H9 ls n (ls.getD k (ae.mk (ar.mk (0:Int) (0:Int)) (0:Int) (0:Int) (0:Int))).mJ.toNat else []
def Ia(ls:List ae):Nat->Nat->List Int
 | 0,_=>[]
 | n+1,k=>if 0<=(ls.getD k (ae.mk (ar.mk (0:Int) (0:Int)) (0:Int) (0:Int) (0:Int))).mJ then (ls.getD k (ae.mk (ar.mk (0:Int) (0:Int)) (0:Int) (0:Int) (0:Int))).act::Ia ls n (ls.getD k (ae.mk (ar.mk (0:Int) (0:Int)) (0:Int) (0:Int) (0:Int))).mJ.toNat else []
structure WB(ls:List ae):Prop where
 n:ls.length<=3721
 f:∀ j,j<ls.length -> -1<=(ls.getD j (ae.mk (ar.mk (0:Int) (0:Int)) (0:Int) (0:Int) (0:Int))).mJ/\(ls.getD j (ae.mk (ar.mk (0:Int) (0:Int)) (0:Int) (0:Int) (0:Int))).mJ<(j:Int)
def QK{a b:U}(h:AB a b):WB (cQ a b):=⟨(LG h).lu h,(LG h).mJ⟩
def T5{ls:List ae}(h:WB ls):∀ n k,k<ls.length->k+1<=n->H9 ls n k=H9 ls (k+1) k
 | 0,k,_,h2=>by omega
 | n+1,k,h1,h2=>by
  have q:=h.f k h1;rw[H9,H9];split
  .rename_i w;rw[T5 h n _ (by omega) (by omega),T5 h k _ (by omega) (by omega)]
  .rfl
def T6{ls:List ae}(h:WB ls):∀ n k,k<ls.length->k+1<=n->Ia ls n k=Ia ls (k+1) k
 | 0,k,_,h2=>by omega
 | n+1,k,h1,h2=>by
  have q:=h.f k h1;rw[Ia,Ia];split
  .rename_i w;rw[T6 h n _ (by omega) (by omega),T6 h k _ (by omega) (by omega)]
  .rfl
structure Ko where
 k:Nat
 xs:List Int
 ys:List Int
structure zU(ls:List ae)(i:Nat)(t:Int)(v:Ko):Prop where
 hi:i<ls.length
 hk:v.k<=i
 n:ls.length<=3721
 nx:v.xs.length+v.k<=i+1
 ny:v.ys.length+v.k<=i
 ex:v.xs++H9 ls (v.k+1) v.k=t::H9 ls (i+1) i
 ey:v.ys++Ia ls (v.k+1) v.k=Ia ls (i+1) i
def zU.first{ls:List ae}(h:WB ls){i:Nat}(hi:i<ls.length)(t:Int):zU ls i t (Ko.mk i [t] []):=⟨hi,a7P _,h.n,by simp only[a7I,a7T];omega,by simp only[a7T];omega,rfl,rfl⟩
def zU.UU{ls:List ae}(h:WB ls){i:Nat}{t:Int}{v:Ko}(q:zU ls i t v)(w:0<=(ls.getD v.k (ae.mk (ar.mk (0:Int) (0:Int)) (0:Int) (0:Int) (0:Int))).mJ) :
  zU ls i t (Ko.mk (ls.getD v.k (ae.mk (ar.mk (0:Int) (0:Int)) (0:Int) (0:Int) (0:Int))).mJ.toNat (v.xs++[(ls.getD v.k (ae.mk (ar.mk (0:Int) (0:Int)) (0:Int) (0:Int) (0:Int))).atom]) (v.ys++[(ls.getD v.k (ae.mk (ar.mk (0:Int) (0:Int)) (0:Int) (0:Int) (0:Int))).act])):=by
 have e1:=q.hi;have e2:=q.hk;have e3:=q.nx;have e4:=q.ny;have f:=h.f v.k (by omega);have ex:=q.ex;have ey:=q.ey;rw[H9,a7E w,T5 h _ _ (by omega) (by omega)] at ex;rw[Ia,a7E w,T6 h _ _ (by omega) (by omega)] at ey;exact⟨q.hi,by simp only;omega,h.n,by simp only[a7K,a7I,a7T];omega,by simp only[a7K,a7I,a7T];omega,by rw[<-ex];simp,by rw[<-ey];simp⟩
def zU.a3q{ls:List ae}{i:Nat}{t:Int}{v:Ko}(q:zU ls i t v)(w:¬ 0<=(ls.getD v.k (ae.mk (ar.mk (0:Int) (0:Int)) (0:Int) (0:Int) (0:Int))).mJ):v.xs=t::H9 ls (i+1) i:=by
 have:=q.ex;rw[H9,a7z w,a8z] at this;exact this
def zU.a3r{ls:List ae}{i:Nat}{t:Int}{v:Ko}(q:zU ls i t v)(w:¬ 0<=(ls.getD v.k (ae.mk (ar.mk (0:Int) (0:Int)) (0:Int) (0:Int) (0:Int))).mJ):v.ys=Ia ls (i+1) i:=by
 have:=q.ey;rw[Ia,a7z w,a8z] at this;exact this
noncomputable def Qv(a b:U):List Int:=bif uB a b then [] else (((Qt a b).2:Int)::H9 (cQ a b) ((Qt a b).1+1) (Qt a b).1).reverse
noncomputable def Qw(a b:U):List Int:=bif uB a b then [] else (Ia (cQ a b) ((Qt a b).1+1) (Qt a b).1).reverse
noncomputable def Ub(a b:U):Bool:=bif uB a b then false else me a ((cQ a b).getD (Qt a b).1 (ae.mk (ar.mk (0:Int) (0:Int)) (0:Int) (0:Int) (0:Int))).pair.a0 ((Qt a b).2:Int)
noncomputable def OB(a b:U):Bool := !uB a b
def a5a{a b:U}{p:Nat×Nat}(h:As a b p){xs:List Int}(e:xs=(p.2:Int)::H9 (cQ a b) (p.1+1) p.1):xs.reverse=Qv a b:=by rw[Qv,Lw h,Qu h,e];rfl
def a5b{a b:U}{p:Nat×Nat}(h:As a b p){xs:List Int}(e:xs=Ia (cQ a b) (p.1+1) p.1):xs.reverse=Qw a b:=by rw[Qw,Lw h,Qu h,e];rfl
def a4Y{a b:U}{p:Nat×Nat}(h:As a b p):me a ((cQ a b).getD p.1 (ae.mk (ar.mk (0:Int) (0:Int)) (0:Int) (0:Int) (0:Int))).pair.a0 (p.2:Int)=Ub a b:=by rw[Ub,Lw h,Qu h];rfl
def a4X{a b:U}{p:Nat×Nat}(h:As a b p):true=OB a b:=by rw[OB,Lw h];rfl
def a5g{a b:U}(h:uB a b=true):[]=Qv a b:=by rw[Qv,h];rfl
def a5h{a b:U}(h:uB a b=true):[]=Qw a b:=by rw[Qw,h];rfl
def a5e{a b:U}(h:uB a b=true):false=Ub a b:=by rw[Ub,h];rfl
def a5d{a b:U}(h:uB a b=true):false=OB a b:=by rw[OB,h];rfl
def oF(xs:List Int)(k:Nat):List Int:=(List.range xs.length).map λ j=>if j<k\/xs.length<=j+k then xs.getD (xs.length - 1 - j) 0 else xs.getD j 0
def pg(xs:List Int)(k:Nat):(oF xs k).length=xs.length:=by simp[oF]
def xL(xs:List Int)(k:Nat){j:Nat}(h:j<xs.length):(oF xs k).getD j 0=if j<k\/xs.length<=j+k then xs.getD (xs.length - 1 - j) 0 else xs.getD j 0:=by
 simp[oF,a7G,h]
def a4b(xs:List Int):xs=oF xs 0:=by
 apply List.ext_getElem (pg xs 0).symm;intro j h1 h2;have:=xL xs 0 h1;rw[if_neg (by omega)] at this;simpa [List.getD_eq_getElem?_getD,h1,h2] using this.symm
def Tg(xs:List Int){k:Nat}(h:xs.length<=2 * k+1):oF xs k=xs.reverse:=by
 apply b1i (by rw[pg,b1I]);intro j h1 h2;rw[pg] at h1;have:=xL xs k h1;have e:(oF xs k).getD j 0=(oF xs k)[j]'(by rw[pg];exact h1):=by simp[a7G,pg,h1]
 rw[<-e,this,List.getElem_reverse];split
 .have h4:xs.length - 1 - j<xs.length:=by omega
  simp[a7G,h4]
 .have:xs.length - 1 - j=j:=by omega
  simp[a7G,h1,this]
def a4c(xs:List Int){k:Nat}(h:2 * k+1<xs.length):((oF xs k).set k ((oF xs k).getD (xs.length - 1 - k) 0)).set (xs.length - 1 - k) ((oF xs k).getD k 0)=oF xs (k+1):=by
 apply b1i (by simp[pg]);intro j h1 h2;rw[pg] at h2;have e:∀ m (hm:j<(oF xs m).length),(oF xs m)[j]'hm=(oF xs m).getD j 0:=λ m hm=>by simp[a7G,hm]
 rw[e,xL xs (k+1) h2,b0W,b0W];by_cases c1:xs.length - 1 - k=j
 .rw[a7E c1,a7E (by omega),xL xs k (show k<xs.length by omega),a7z (show ¬ (k<k\/xs.length<=k+k) by omega)];congr 1;omega
 .rw[a7z c1];by_cases c2:k=j
  .rw[a7E c2,a7E (by omega),xL xs k (show xs.length - 1 - k<xs.length by omega),a7z (show ¬ (xs.length - 1 - k<k\/xs.length<=xs.length - 1 - k+k) by omega),c2]
  .rw[a7z c2,e,xL xs k h2];by_cases c3:j<k\/xs.length<=j+k
   .rw[a7E c3,a7E (by omega)]
   .rw[a7z c3,a7z (by omega)]
end
end Go.Proofs.YtncejbehidimmaaGreatDoor

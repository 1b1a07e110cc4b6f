/- VmPf10, VmPf11, VmPf12, VmPf13, VmPf14, VmPf15, VmCApply. -/
import Derived.Test.YtmjfpcajohhbeaaGreatDoorVmPf9
import Derived.WalkKit
import Derived.Deep.QuietTactic
import Derived.BigQuiet
import Derived.LoopTactic
import Derived.Deep.RegionWith
set_option linter.all false
set_option maxRecDepth 4000
set_option maxHeartbeats 4000000
namespace Go.Proofs.YtmjfpcajohhbeaaGreatDoor
noncomputable section
open Go.RowKit Go.Proofs
def FP.same{w w':World}{lo B:Nat}{x:J}{ks:List Int}{b o:Nat}{L:List Value}{t:TypeId}{fy:List Nat}(h:FP w lo B x ks b o L t fy)(e:w'.heap=w.heap):FP w' lo B x ks b o L t fy :=
 ⟨⟨by rw[e];exact h.nd.h,h.nd.l,h.nd.ow.bd _ λ _ _=>by rw[e],h.nd.nb,h.nd.nd⟩,h.flo,h.lb,λ w'' y c f hk=>h.put w'' y c f λ k h1=>by rw[<-e];exact hk k (by rw[e];exact h1)⟩
def a3G{w:World}{b o:Nat}{x:J}{L:List Value}{t:TypeId}{fy:List Nat}(h:Nd w b o x L t fy):cG w b o ((L.drop o).take 3):=λ j v hj=>by
 have hj3:j<3:=by
  have:=(b1K.1 hj).1;rw[b1C] at this;omega
 rw[b3D hj3,b2B] at hj;simp[World.cell?,h.h,hj]
def a5z{w:World}{lo B:Nat}{x:J}{ks:List Int}:a4g w x ks λ k b o=>∃ L t fy,FP w lo B x (ks.take k) b o L t fy:=by
 rintro k b o ⟨L,t,fy,h⟩ hk;obtain⟨a,m,cap,YQ⟩:=ow3 h.nd.ow;have hc:=a3G h.nd;rw[YQ] at hc;have h0:=hc 0 _ rfl;obtain⟨a',Xn,h2,hl⟩:=a1H h;refine⟨h0,a',Xn,h2,hl,λ j YU hj WT=>?_⟩;obtain⟨bk,b0r,L',t',fy',h3,_,h4⟩:=a1I h (j:Int) ⟨by omega,by omega⟩;rw[h3] at h2;simp only[Option.some.injEq,Value.slice.injEq,true_and] at h2;refine⟨bk,0,h2.1.symm,L',t',fy',?_⟩;rw[fM 0 ks k YU,hj];simpa using h4
def MX{w0 w:World}{S:Nat->Prop}(hS:yI w0 S)(hb:Below w0.heap.size w0 w)(x:J)(hx:aw x<=1048576)(b o:Nat)(cs:List Value)(h1:b<w.heap.size)(h2:cG w b o cs)(r:Rd w0 S x.bc cs) :
  Calls prog qP #[.pointer (some ⟨b,o,none⟩)] w λ e w'=>∃ (k' n':Int) (a':Option Addr) (m' c':Nat) (fp:List Nat),e = .returned (.agg #[.int .i64 k', .int .i64 n', .slice a' m' c'])/\bV (λ _=>False) w w'/\Ow w' x.bc [.int .i64 k', .int .i64 n', .slice a' m' c'] fp/\fp.Nodup/\∀ q∈fp,w.heap.size<=q/\q<w'.heap.size:=by
 refine (AG.2 x hx w S [_] [] (a2a hS hb) ⟨[],[],rfl,⟨rfl,⟨b,o,cs,rfl,h1,h2,V6 hS hb r⟩⟩,rfl⟩ (.inl rfl) List.nodup_nil (by simp)).mono ?_;rintro e w' ⟨v,fp,rfl,qp,dj,hn,hf⟩;obtain⟨c,rfl,ho⟩:=(show ∃ cs,v = .agg cs.toArray/\Ow w' x.bc cs fp from dj);obtain⟨a,m,cap,rfl⟩:=ow3 ho;exact⟨_,_,_,_,_,fp,rfl,by simpa using qp,ho,hn,λ q hq=>by simpa using hf q hq⟩
def ZR{w0 w:World}{S:Nat->Prop}(hS:yI w0 S)(hb:Below w0.heap.size w0 w)(x:J)(b o:Nat)(cs:List Value)(h1:b<w.heap.size)(h2:cG w b o cs)(r:Rd w0 S x.bc cs) :
  Calls prog jh #[.pointer (some ⟨b,o,none⟩)] w λ e w'=>e = .returned (.bool (bu x))/\bV (λ _=>False) w w':=by
 refine (nC.2 x trivial w _ [_] (a2a hS hb) ⟨⟨b,o,cs,rfl,h1,h2,V6 hS hb r⟩,af⟩).mono ?_;rintro e w' ⟨v,S',res,rfl,rfl,qp,_,_,hr⟩;have hr:[v]=[.bool (bu x)]:=hr;simp only[b0T,b1b] at hr;subst hr;exact⟨rfl,qp⟩
def Cq{P:Program}{ops:Array Oper}{rest:List Oper}{op:Oper}{a:Act}{w w':World}{Q:Exit->Act->World->Prop}{ty:TypeId}{x y:Operand}{p v:Value}(hgd:op.guard=none)(ho:op.op = .store ty x y)
  (hx:a.eval x=p) (hy:a.eval y=v) (hr:(Instr.storeAt ty p v).run P w = .ok () w') (h:wpList P ops Q rest (a.put op.dst undef) w'):wpList P ops Q (op::rest) a w :=
 wpList_plain hgd λ K hK=>by
  unfold Oper.wp execOp;simp only[ho,hx,hy,Sem.run_bind,Sem.run_pure,Result.andThen_ok,hr];exact hK _ _ h
def st3{w:World}{g o:Nat}{l cs:List Value}{t:TypeId}(hg:w.heap[g]?=some (.cells l.toArray t (0,0)))(h6:cs.length=3)(h1:∀ u∈cs,u.oneCell'=true)(DU:o+3<=l.length) :
  ∃ w',(Instr.storeAt 38 (.pointer (some ⟨g,o,none⟩)) (.agg cs.toArray)).run prog w = .ok () w'/\w'.heap[g]?=some (.cells (l.take o++cs++l.drop (o+3)).toArray t (0,0))/\bV (λ b=>b=g) w w'/\w'.heap.size=w.heap.size:=by
 have:=yW (c:=⟨prog,E0,w,λ _=>False,λ _=>False,λ _=>none,λ _=>False,λ _=>none⟩) hE0 (T:=38) (τ := .st .expr) rfl (o:=o) (x := .agg cs.toArray) hg (by simp only[Value.cells];exact h6) (by simpa [Value.cells] using h1) DU;refine⟨_,this,?_,⟨rfl,rfl,rfl,by simp,λ b _ hb=>setRow_other w g b _ hb⟩,by simp⟩;rw[setRow_heap w g _ _ t _ hg];rfl
def XS{n:Int}(h:IntKind.i64.min<=n/\n<=IntKind.i64.max):U n:=h
def zC:List Value:=[.int .i64 0, .int .i64 0, .slice none 0 0]
def Yn(w:World)(S:Nat->Prop)(V:J)(C:Int)(e:Ending)(w':World):Prop :=
 ∃ x S' res,e=Ending.returned x/\res=[(⟨.st .expr,V⟩:TV),⟨.int .i64,C⟩]/\bV (λ _=>False) w w' /\
  (∀ b,b<w.heap.size->(S' b↔S b))/\(∀ b,S' b->b<w'.heap.size)/\FR w' S' res x
def P2{w w':World}{S:Nat->Prop}{V:J}{C c:Int}(hS:yI w S)(hk:bV (λ _=>False) w w')(h:V=J.mk (0:Int) (0:Int) []/\C=c)(hc:U c) :
  Yn w S V C (.returned (.tuple #[.agg #[.int .i64 0, .int .i64 0, .slice none 0 0], .int .i64 c])) w':=by
 refine⟨_,S,_,rfl,rfl,hk,λ _ _=>b2L,λ b hb=>b1c (hS.1 b hb) hk.size,[_,_],rfl,⟨zC,rfl,?_⟩,?_,af⟩
 .rw[h.1];have h0:IntKind.i64.min<=0/\(0:Int)<=IntKind.i64.max:=by decide
  have hs:∀ n,Rd w' S (.slice n []) [.slice none 0 0]:=λ n=>⟨none,0,rfl,by simp,by simp[maxLen],by simp, .inl rfl⟩;exact⟨_,_,rfl,⟨rfl,h0⟩,_,_,rfl,⟨rfl,h0⟩,_,_,rfl,hs _,rfl⟩
 .rw[h.2];exact⟨rfl,hc⟩
def a6Q{w W:World}{o1 o2:Obj}(h:(w.alloc o1).alloc o2=W) :
  bV (λ _=>False) w W/\W.heap[w.heap.size]?=some o1/\W.heap[w.heap.size+1]?=some o2/\W.heap.size=w.heap.size+2:=by
 subst h;refine⟨⟨rfl,rfl,rfl,by simp;omega,λ b hb _=>?_⟩,?_,?_,by simp⟩
 .show ((w.heap.push o1).push o2)[b]?=_;rw[b1T,b1T,b0Y (by simp only[b2z];omega),b0Y (by omega)]
 .show ((w.heap.push o1).push o2)[w.heap.size]?=_;rw[b1T,b1T,b0Y (by simp only[b2z];omega),b1q rfl]
 .show ((w.heap.push o1).push o2)[w.heap.size+1]?=_;rw[b1T,b1q (by simp only[b2z])]
structure RqP(gg:aX)(x y:J):Prop where
 s:bS gg=true
 x:aw x<=1048576
 y:aw y<=1048576
set_option maxRecDepth 100000 in
def a3P(gg:aX)(x:J)(ps:List Int)(y:J)(hp:RqP gg x y):bC prog o7 [.val ⟨.st .sig,gg⟩, .ref ⟨.st .expr,x⟩, .val ⟨.slice (.int .i64),ps⟩, .ref ⟨.st .expr,y⟩] (·=[⟨.st .expr,yc gg x ps y⟩,⟨.int .i64,sd gg x ps y⟩]):=by
 intro w S dm hS ha;match dm,ha with
 | [v1,v2,v3,v4],ha =>
 obtain⟨⟨c1,rfl,r1⟩,⟨b,o,cs,rfl,hb,hc,r2⟩,r3,⟨by_,oy,cy,rfl,hby,hcy,r4⟩,_⟩:=ha;have r3:Rd w S (.slice 1 (ps.map (D.int .i64))) [v3]:=r3;obtain⟨g0,g1,rfl⟩:∃ g0 g1,c1=[g0,g1]:=by
  have:=Rd.length _ r1;match c1,this with
  | [g0,g1],_=>exact⟨_,_,rfl⟩
 show Calls prog o7 _ w (Yn w S (yc gg x ps y) (sd gg x ps y));generalize YK:Yn w S (yc gg x ps y) (sd gg x ps y)=Po;go_enter Tryz.func93,Tryz.ntmps93;go_wp2;generalize hW:(w.alloc _).alloc _=W;obtain⟨k1,h1,h2,h4⟩:=a6Q hW;clear hW;have b1:Below w.heap.size w W:=wP k1 (b1E _);refine (MX hS b1 x hp.x b o cs (b1c hb k1.size) (HP b1 hc hb) r2).mono ?_;rintro _ w1 ⟨k',n',a',m',c',fp,rfl,k2,ho,hn,hf⟩;go_wp2_with fail;obtain⟨k4,e4,s4⟩:=NC w1 (.cells #[.int .i64 k', .int .i64 n', .slice a' m' c'] 38);have e1:=(k4.block _ ((k2.block _ (bP h1) id).trans h1 |> bP) id).trans ((k2.block _ (bP h1) id).trans h1);have e2:=(k4.block _ ((k2.block _ (bP h2) id).trans h2 |> bP) id).trans ((k2.block _ (bP h2) id).trans h2);have k3:bV (λ _=>False) w (w1.alloc (.cells #[.int .i64 k', .int .i64 n', .slice a' m' c'] 38)):=iu (iu (Z:=λ _=>False) k1 k2 (λ _ _ q=>q) λ _ _ q=>q) k4 (λ _ _ q=>q) λ _ _ q=>q;have ho2:=ho.bd _ λ b hb=>k4.block b (hf b hb).2 id;have hs2:=k2.size;have hl0:W.heap.size<=w1.heap.size:=hs2;have tl:∀ q∈fp,W.heap.size<=q:=λ q hq=>(hf q hq).1;have hBn:w1.heap.size∉fp:=λ q=>by have:=(hf _ q).2;omega
 clear k2 k4 ho hf h1 h2;generalize hB:w1.heap.size=B at *
 generalize w1.alloc (.cells #[.int .i64 k', .int .i64 n', .slice a' m' c'] 38)=w2 at *
 have r3':Rd w2 S (.slice 1 (ps.map (D.int .i64))) [v3]:=V6 hS (wP k3 (b1E _)) r3;have l0:FP w2 W.heap.size B x (ps.take 0) B 0 [.int .i64 k', .int .i64 n', .slice a' m' c'] 38 fp:=by
  rw[b1V];exact a8l w2 W.heap.size B x _ 38 fp e4 ho2 hBn hn hl0 tl
 have hA:=ZK w2 x ps (λ k b o=>∃ L t fy,FP w2 W.heap.size B x (ps.take k) b o L t fy) B 0 (by exact⟨_,_,_,l0⟩) a5z v3 S r3';refine hA.mono ?_;rintro _ w4 ⟨⟨m,hm⟩,p,bl,rfl,kA,bA,oA,hkA,rfl,hLA,hEA,hBA,UZ⟩;have hh:w4.heap=w2.heap:=by rw[hm];rfl
 have k5:bV (λ _=>False) w w4:=by rw[hm];exact⟨k3.os,k3.tape,k3.output,k3.size,k3.block⟩
 have e5:w4.heap[w.heap.size]?=some (.cells #[g0,g1] 41 (0,0)):=by rw[hh];exact e1
 have e6:w4.heap[w.heap.size+1]?=some (.cells #[.int .i64 0, .int .i64 0, .slice none 0 0] 38 (0,0)):=by rw[hh];exact e2
 have hB4:B<w4.heap.size:=by rw[hh,s4];omega
 obtain⟨⟨y0,y1,y2⟩,y3,y4,y5⟩:=Qk e6;have b5:Below w.heap.size w w4:=wP k5 (b1E _);have hLs:∀ b o,(∃ L t fy,FP w2 W.heap.size B x (ps.take ps.length) b o L t fy)->∃ L t fy,FP w4 W.heap.size B x ps b o L t fy:=λ b o ⟨L,t,fy,h⟩=>⟨L,t,fy,by rw[b3p] at h;exact h.same hh⟩;clear hm hA;cases dt:fP x ps
 .obtain⟨x9,o9⟩:=PA (.int .i64 0) (.int .i64 0) (.slice none 0 0) e6;obtain⟨k8,s8⟩:=Sa (.int .i64 0) (.int .i64 0) (.slice none 0 0) k5 e6 (by omega);go_wp2;refine Cm (cs:=zC) rfl rfl rfl x9 rfl rfl ?_;rw[<-YK];exact P2 hS k8 (a5O dt) (XS (by decide))
 have OM:=UZ dt;subst OM;rw[(VI ps x dt).2] at hBA;subst hBA;have hLx:=hLA;obtain⟨L,t,fy,hL⟩:=hLs _ _ hLx;generalize bA=bn at *
 generalize oA=on at *
 clear hLs hLx hLA UZ hh;have r4':=V6 hS b5 r4;have a9t:by_<w4.heap.size:=b1c hby k5.size;have a9w:=HP b5 hcy hby;have hC:=ZR hS b5 y by_ oy cy a9t a9w r4;generalize hbl:sb x ps=bl at *
 have hs1:=k1.size;cases bl
 .have hgo:yU x ps=false\/bu y=true := .inl (by unfold yU;rw[hbl,Bool.and_false]);have k6:bV (λ _=>False) w4 w4:=bV.refl _ _;have bb5:=b5;go_wp2_with fail;refine (MX hS bb5 y hp.y by_ oy cy (Nat.lt_of_lt_of_le hby bb5.size) (HP bb5 hcy hby) r4).mono ?_;rintro _ w6 ⟨k'',n'',a'',m'',c'',fp2,rfl,k7,ho6,hn6,hf6⟩;have hs6:=k6.size;have hs7:=k7.size;have Ik:bV (λ _=>False) w4 w6:=iu k6 k7 (λ _ _ q=>q) λ _ _ q=>q;have WO:=bP hL.nd.h;have hL6:w6.heap[bn]?=some (.cells L.toArray t (0,0)):=(Ik.block bn WO id).trans hL.nd.h;obtain⟨w7,cI,e15,Vm,a9K⟩:=st3 (o:=on) (cs:=[.int .i64 k'', .int .i64 n'', .slice a'' m'' c'']) hL6 rfl (by simp[Value.oneCell']) hL.nd.l;have hlb:=hL.lb;have k8:bV (λ _=>False) w w6:=iu k5 Ik (λ _ _ q=>q) λ _ _ q=>q;have k17:bV (λ _=>False) w w7:=iu k8 Vm (λ _ _ q=>q) λ i h q=>by omega
  have hP:Pl w7 W.heap.size B (iL y x ps):=by
   refine hL.put w7 y _ fp2 (λ k h1 h2 h3=>(Vm.block k (b1c h1 Ik.size) h2).trans (Ik.block k h1 id)) e15 rfl (ho6.bd _ λ q hq=>?_) λ q hq=>?_
   .have:=hf6 q hq;exact Vm.block q this.2 (by omega)
   .have:=hf6 q hq;have:=b5.size;omega
  obtain⟨c8,t8,f8,q1,q2,q3⟩:=hP;obtain⟨a8,m8,HN,rfl⟩:=ow3 q2;have e16:=(Vm.block _ (b1c (bP e5) Ik.size) (by omega)).trans ((Ik.block _ (bP e5) id).trans e5);have e17:=(Vm.block _ (b1c (bP e6) Ik.size) (by omega)).trans ((Ik.block _ (bP e6) id).trans e6);have u0:w7.cell? ⟨w.heap.size,0,none⟩=some g0:=by simp[World.cell?,e16]
  have u1:w7.cell? ⟨w.heap.size,1,none⟩=some g1:=by simp[World.cell?,e16]
  have hok:=QQ hS (wP k17 (b1E _)) gg g0 g1 r1 (iL y x ps) B 0 _ (bP q1) (Jm q1) (Ow.rd _ q2 λ q hq=>Ow.lt _ q2 q hq);go_wp2_with (first|(refine Cq rfl rfl rfl rfl cI ?_)|(go_at_call 39;refine hok.mono ?_));rintro _ w8 ⟨rfl,Vn⟩;have LY:=(Vn.block _ (bP e17) id).trans e17;have e19:=(Vn.block _ (bP q1) id).trans q1;have k19:bV (λ _=>False) w w8:=iu k17 Vn (λ _ _ q=>q) λ _ _ q=>q;rw[Ck hp.s];obtain⟨⟨i0,i1,i2⟩,i3,i4,i5⟩:=Qk LY;obtain⟨⟨j0,j1,j2⟩,_⟩:=Qk e19;cases hiA:cC gg (iL y x ps)
  .obtain⟨x9,o9⟩:=PA (.int .i64 0) (.int .i64 0) (.slice none 0 0) LY;obtain⟨Vo,s20⟩:=Sa (.int .i64 0) (.int .i64 0) (.slice none 0 0) k19 LY (by omega);go_wp2;refine Cm (cs:=zC) rfl rfl rfl x9 rfl rfl ?_;rw[<-YK];exact P2 hS Vo (I4 dt hgo false hiA) (XS (by decide))
  .obtain⟨x9,o9⟩:=PA (.int .i64 (iL y x ps).au) (.int .i64 (iL y x ps).aO) (.slice a8 m8 HN) LY;obtain⟨Vo,s20⟩:=Sa (.int .i64 (iL y x ps).au) (.int .i64 (iL y x ps).aO) (.slice a8 m8 HN) k19 LY (by omega);have ho9:=q2.bd (w':=((w8.setCell ⟨w.heap.size+1,0,none⟩ (.int .i64 (iL y x ps).au)).setCell ⟨w.heap.size+1,1,none⟩ (.int .i64 (iL y x ps).aO)).setCell ⟨w.heap.size+1,2,none⟩ (.slice a8 m8 HN)) _ λ q hq=>(o9 q (by have:=q3 q hq;omega)).trans (Vn.block q (Ow.lt _ q2 q hq) id);have a9L:=Vn.size;have a5c:=λ q hq=>Ow.lt _ q2 q hq;go_wp2;generalize ((w8.setCell ⟨w.heap.size+1,0,none⟩ (.int .i64 (iL y x ps).au)).setCell ⟨w.heap.size+1,1,none⟩ (.int .i64 (iL y x ps).aO)).setCell ⟨w.heap.size+1,2,none⟩ (.slice a8 m8 HN)=w9 at *
   refine Cm (cs:=[.int .i64 (iL y x ps).au, .int .i64 (iL y x ps).aO, .slice a8 m8 HN]) rfl rfl rfl x9 rfl rfl ?_;rw[<-YK];have hd:=I4 (gg:=gg) dt hgo true hiA;refine⟨_,λ b=>S b\/(w.heap.size<=b/\b<w9.heap.size),_,rfl,rfl,Vo,λ b hb=>⟨λ h=>h.elim id λ h=>absurd h.1 (by omega), .inl⟩,λ b h=>h.elim (λ h=>b1c (hS.1 b h) Vo.size) λ h=>h.2,[_,_],rfl,⟨_,rfl,?_⟩,?_,af⟩
   .rw[hd.1];exact ho9.rd _ λ q hq => .inr ⟨by have:=q3 q hq;omega,by have:=a5c q hq;omega⟩
   .rw[hd.2];exact⟨rfl,XS (by decide)⟩
 .cases hcd:bu y
  .rw[hcd] at hC;go_wp2_with (go_at_call 108;refine hC.mono ?_);rintro _ w5 ⟨rfl,k6⟩;have LY:=(k6.block _ (bP e6) id).trans e6;have k19:bV (λ _=>False) w w5:=iu k5 k6 (λ _ _ q=>q) λ _ _ q=>q;obtain⟨⟨i0,i1,i2⟩,i3,i4,i5⟩:=Qk LY;obtain⟨x9,o9⟩:=PA (.int .i64 0) (.int .i64 0) (.slice none 0 0) LY;obtain⟨Vo,s20⟩:=Sa (.int .i64 0) (.int .i64 0) (.slice none 0 0) k19 LY (by omega);go_wp2;refine Cm (cs:=zC) rfl rfl rfl x9 rfl rfl ?_;rw[<-YK];exact P2 hS Vo (a1Y dt (by unfold yU;rw[dt,hbl];rfl) hcd) (XS (by decide))
  .rw[hcd] at hC;have hgo:yU x ps=false\/bu y=true := .inr hcd;go_wp2_with (go_at_call 108;refine hC.mono ?_);rintro _ w5 ⟨rfl,k6⟩;have bb5:Below w.heap.size w w5:=wP (iu (Z:=λ _=>False) k5 k6 (λ _ _ q=>q) λ _ _ q=>q) (b1E _);go_wp2_with fail;refine (MX hS bb5 y hp.y by_ oy cy (b1c hby bb5.size) (HP bb5 hcy hby) r4).mono ?_;rintro _ w6 ⟨k'',n'',a'',m'',c'',fp2,rfl,k7,ho6,hn6,hf6⟩;have hs6:=k6.size;have hs7:=k7.size;have Ik:bV (λ _=>False) w4 w6:=iu k6 k7 (λ _ _ q=>q) λ _ _ q=>q;have WO:=bP hL.nd.h;have hL6:w6.heap[bn]?=some (.cells L.toArray t (0,0)):=(Ik.block bn WO id).trans hL.nd.h;obtain⟨w7,cI,e15,Vm,a9K⟩:=st3 (o:=on) (cs:=[.int .i64 k'', .int .i64 n'', .slice a'' m'' c'']) hL6 rfl (by simp[Value.oneCell']) hL.nd.l;have hlb:=hL.lb;have k8:bV (λ _=>False) w w6:=iu k5 Ik (λ _ _ q=>q) λ _ _ q=>q;have k17:bV (λ _=>False) w w7:=iu k8 Vm (λ _ _ q=>q) λ i h q=>by omega
   have hP:Pl w7 W.heap.size B (iL y x ps):=by
    refine hL.put w7 y _ fp2 (λ k h1 h2 h3=>(Vm.block k (b1c h1 Ik.size) h2).trans (Ik.block k h1 id)) e15 rfl (ho6.bd _ λ q hq=>?_) λ q hq=>?_
    .have:=hf6 q hq;exact Vm.block q this.2 (by omega)
    .have:=hf6 q hq;have:=b5.size;omega
   obtain⟨c8,t8,f8,q1,q2,q3⟩:=hP;obtain⟨a8,m8,HN,rfl⟩:=ow3 q2;have e16:=(Vm.block _ (b1c (bP e5) Ik.size) (by omega)).trans ((Ik.block _ (bP e5) id).trans e5);have e17:=(Vm.block _ (b1c (bP e6) Ik.size) (by omega)).trans ((Ik.block _ (bP e6) id).trans e6);have u0:w7.cell? ⟨w.heap.size,0,none⟩=some g0:=by simp[World.cell?,e16]
   have u1:w7.cell? ⟨w.heap.size,1,none⟩=some g1:=by simp[World.cell?,e16]
   have hok:=QQ hS (wP k17 (b1E _)) gg g0 g1 r1 (iL y x ps) B 0 _ (bP q1) (Jm q1) (Ow.rd _ q2 λ q hq=>Ow.lt _ q2 q hq);go_wp2_with (first|(refine Cq rfl rfl rfl rfl cI ?_)|(go_at_call 39;refine hok.mono ?_));rintro _ w8 ⟨rfl,Vn⟩;have LY:=(Vn.block _ (bP e17) id).trans e17;have e19:=(Vn.block _ (bP q1) id).trans q1;have k19:bV (λ _=>False) w w8:=iu k17 Vn (λ _ _ q=>q) λ _ _ q=>q;rw[Ck hp.s];obtain⟨⟨i0,i1,i2⟩,i3,i4,i5⟩:=Qk LY;obtain⟨⟨j0,j1,j2⟩,_⟩:=Qk e19;cases hiA:cC gg (iL y x ps)
   .obtain⟨x9,o9⟩:=PA (.int .i64 0) (.int .i64 0) (.slice none 0 0) LY;obtain⟨Vo,s20⟩:=Sa (.int .i64 0) (.int .i64 0) (.slice none 0 0) k19 LY (by omega);go_wp2;refine Cm (cs:=zC) rfl rfl rfl x9 rfl rfl ?_;rw[<-YK];exact P2 hS Vo (I4 dt hgo false hiA) (XS (by decide))
   .obtain⟨x9,o9⟩:=PA (.int .i64 (iL y x ps).au) (.int .i64 (iL y x ps).aO) (.slice a8 m8 HN) LY;obtain⟨Vo,s20⟩:=Sa (.int .i64 (iL y x ps).au) (.int .i64 (iL y x ps).aO) (.slice a8 m8 HN) k19 LY (by omega);have ho9:=q2.bd (w':=((w8.setCell ⟨w.heap.size+1,0,none⟩ (.int .i64 (iL y x ps).au)).setCell ⟨w.heap.size+1,1,none⟩ (.int .i64 (iL y x ps).aO)).setCell ⟨w.heap.size+1,2,none⟩ (.slice a8 m8 HN)) _ λ q hq=>(o9 q (by have:=q3 q hq;omega)).trans (Vn.block q (Ow.lt _ q2 q hq) id);have a9L:=Vn.size;have a5c:=λ q hq=>Ow.lt _ q2 q hq;go_wp2;generalize ((w8.setCell ⟨w.heap.size+1,0,none⟩ (.int .i64 (iL y x ps).au)).setCell ⟨w.heap.size+1,1,none⟩ (.int .i64 (iL y x ps).aO)).setCell ⟨w.heap.size+1,2,none⟩ (.slice a8 m8 HN)=w9 at *
    refine Cm (cs:=[.int .i64 (iL y x ps).au, .int .i64 (iL y x ps).aO, .slice a8 m8 HN]) rfl rfl rfl x9 rfl rfl ?_;rw[<-YK];have hd:=I4 (gg:=gg) dt hgo true hiA;refine⟨_,λ b=>S b\/(w.heap.size<=b/\b<w9.heap.size),_,rfl,rfl,Vo,λ b hb=>⟨λ h=>h.elim id λ h=>absurd h.1 (by omega), .inl⟩,λ b h=>h.elim (λ h=>b1c (hS.1 b h) Vo.size) λ h=>h.2,[_,_],rfl,⟨_,rfl,?_⟩,?_,af⟩
    .rw[hd.1];exact ho9.rd _ λ q hq => .inr ⟨by have:=q3 q hq;omega,by have:=a5c q hq;omega⟩
    .rw[hd.2];exact⟨rfl,XS (by decide)⟩
def oU:aQ:=⟨o7,[.v (.st .sig), .r (.st .expr), .v (.slice (.int .i64)), .r (.st .expr)],λ (gg:aX) (x:J) (ps:List Int) (y:J)=>⟨(some (RqP gg x y),[⟨(.st .expr),yc gg x ps y⟩,⟨(.int .i64),sd gg x ps y⟩])⟩⟩
def GS:aQ.Good oU :=
 ⟨aA JI rfl (by decide),λ gg x ps y h=>a3P gg x ps y h⟩
end
end Go.Proofs.YtmjfpcajohhbeaaGreatDoor

set_option maxRecDepth 4000
set_option maxHeartbeats 4000000
namespace Go.Proofs.YtmjfpcajohhbeaaGreatDoor
noncomputable section
def Mi:aQ.Good kK:=Kq.plain
def a8H{p:aB}{k u:Int}(h:0<=u)(h2:u<=23):cp p k u=M0 gP (oQ.getD u.toNat [])/\sf k u=true:=by
 have e:=a6a (p:=p) (k:=k) h;refine⟨?_,e.2⟩;have a:=a1a u.toNat (by omega);rw[e.1,a.2.2];unfold Dx;rw[List.getD_eq_getElem?_getD,List.getElem?_map,List.getD_eq_getElem?_getD,List.getElem?_eq_getElem (show u.toNat<oQ.length by rw[si];omega)];rfl
def a7L{u:Int}(h:0<=u)(h2:u<=23):(oQ.getD u.toNat []).length<=8000:=by
 have a:=(a1a u.toNat (by omega)).2.1;omega
def a7Z:bS gP=true:=by decide
def pz:aQ:=⟨x8,[.r (.st .proof), .v (.int .i64), .v (.int .i64)],λ (p:aB) (k:Int) (u:Int)=>⟨(some (u<=23 /\ -40<=u/\0<=k/\k<=(p.aq.length:Int)),[⟨(.st .equation),cp p k u⟩,⟨.bool,sf k u⟩])⟩⟩
def Gv(p:aB)(k:Int)(u:Int):Nat->aM:=λ _ => .none
abbrev BS(p:aB)(k:Int)(u:Int):Prop:=(aC ((-1:Int) - u) p.aq.length/\(aC ((-1:Int) - u) p.aq.length/\(p.aq.length<=140737488355328 ->
 (p.aq.length<=140737488355328 ->
 ((aH.mk (ag (p.aq.getD (Int.toNat ((-1:Int) - u)) (ae.mk zE zE (0:Int) (0:Int) [])).left) (ag (p.aq.getD (Int.toNat ((-1:Int) - u)) (ae.mk zE zE (0:Int) (0:Int) [])).right))=(cp p k u)/\true=(sf k u))))))
def RG(p:aB)(k:Int)(u:Int):ck (aZ [kK,pA,dQ]) (az lX) (Gv p k u) 0 (bx (aZ [kK,pA,dQ]) lX λ r=>bB r [⟨(.st .equation),cp p k u⟩,⟨.bool,sf k u⟩]) (aL lX [.ref ⟨(.st .proof),p⟩, .val ⟨(.int .i64),k⟩, .val ⟨(.int .i64),u⟩]) =
 ((((decide ((0:Int)<=u))=true ->
 ((oQ).length<=140737488355328 ->
 (aC u (oQ).length/\(((oQ).getD (Int.toNat u) []).length<=140737488355328 ->
 ((bS (gP)=true/\((oQ).getD (Int.toNat u) []).length<=8000)/\((b9 (M0 (gP) ((oQ).getD (Int.toNat u) [])))=(cp p k u)/\true=(sf k u)))))))/\((decide ((0:Int)<=u))=false ->
 (U ((-1:Int) - u)/\(((decide (k<=((-1:Int) - u)))=false ->
 (p.aq.length<=140737488355328 ->
 (U ((p.aq.length:Int)) ->
 (((decide (((p.aq.length:Int))<=((-1:Int) - u)))=true ->
 ((aH.mk zE zE)=(cp p k u)/\false=(sf k u)))/\((decide (((p.aq.length:Int))<=((-1:Int) - u)))=false ->
 (BS p k u))))))/\((decide (k<=((-1:Int) - u)))=(!false) ->
 ((true=true ->
 ((aH.mk zE zE)=(cp p k u)/\false=(sf k u)))/\(true=false ->
 (BS p k u))))))))):=by kernel_rfl
def Q8(hE:aI [kK,pA,dQ]):aQ.Good pz:=by
 refine⟨aA Dv rfl (by decide),?_⟩;show ∀ (p:aB) (k:Int) (u:Int),(u<=23 /\ -40<=u/\0<=k/\k<=(p.aq.length:Int))->bC prog x8 [.ref ⟨(.st .proof),p⟩, .val ⟨(.int .i64),k⟩, .val ⟨(.int .i64),u⟩] (·=[⟨(.st .equation),cp p k u⟩,⟨.bool,sf k u⟩]);intro p k u hp;refine bg (wr:=[]) (cl:=[]) (ro:=[]) hE Dv LP (Gv p k u) ?_;rewrite [RG p k u];refine⟨λ _ _=>⟨?_,λ _=>⟨?_,?_,?_⟩⟩,λ _=>⟨?_,λ _ _ _=>⟨λ _=>⟨?_,?_⟩,λ _=>⟨?_,?_,λ _ _=>⟨?_,?_⟩⟩⟩,λ _=>⟨λ _=>⟨?_,?_⟩,λ _=>⟨?_,?_,λ _ _=>⟨?_,?_⟩⟩⟩⟩⟩;all_goals try and_intros
 all_goals try (first|with_reducible rfl|with_reducible assumption)
 all_goals try simp only[J.eta,ae.eta,aH.eta,aU,bM,ct] at *
 all_goals first|with_reducible rfl|with_reducible assumption|exact True.intro|(simp only[b0W,b0V,b0X,b0U] at *;done)|((try simp only[b1F,J.eta,b0N,b0M,b0X,b0U,b1i,b1B,aC,U,bF,b1l,b0Z,b1n,b1o,b1C] at *);first|exact True.intro|omega|exact a7Z|exact a7L (by omega) (by omega)|(have e:=si;omega)|((first|have Q:=a8H (p:=p) (k:=k) (u:=u) (by omega) (by omega)|have Q:=a6b (p:=p) (k:=k) (u:=u) (by omega) (by omega)|have Q:=a6c (p:=p) (k:=k) (u:=u) (by omega) (by omega));first|exact Q.1|exact Q.2|exact Q.1.symm|exact Q.2.symm))
def Mj:aQ.Good pz:=Q8 ⟨Mi,Mk,sn,af⟩
end
end Go.Proofs.YtmjfpcajohhbeaaGreatDoor

set_option maxRecDepth 4000
set_option maxHeartbeats 4000000
namespace Go.Proofs.YtmjfpcajohhbeaaGreatDoor
noncomputable section
def a4c{p:aB}{k u:Int}(h:Cs p)(hk:k<=(p.aq.length:Int))(hu:u<=23)(ho:sf k u=true):aN (cp p k u).left<=500/\aN (cp p k u).right<=500:=by
 unfold cp;by_cases h0:0<=u
 .rw[b1q h0];have hm:Dx.getD u.toNat (aH.mk zE zE)∈Dx:=by
   rw[b1f,b1p (by rw[Uo];omega)];exact b2d _
  have ph:Dx.all (λ q=>decide (aN q.left<=500)&&decide (aN q.right<=500))=true:=by kernel_rfl
  have:=b1L.1 ph _ hm;rw[b0R,b0N,b0N] at this;exact this
 .rw[b0Y h0];simp only[sf,b2y,b0N] at ho;rw[b1q (by omega)];have e:=h.e (i := -1 - u) (by omega) (by omega);have h1:=(zV p.sig _).1 e.1;have h2:=(zV p.sig _).1 e.2.1;exact⟨by have:=h1.2.1;show aN (fj p (-1 - u)).left<=500;omega,by have:=h2.2.1;show aN (fj p (-1 - u)).right<=500;omega⟩
def AW.su{p:aB}{k:Int}{e:J}{s:O}(h:AW p k e s)(hp:No p k e s):suP p.sig (cp p k s.use).left s.ar s.bo/\suP p.sig (cp p k s.use).right s.ar s.bo:=by
 have ht:=Jc hp.v hp.k1 hp.u.1.2 h.u;have hn:=a4c hp.v hp.k1 hp.u.1.2 h.u;have hf:=EH.of hp.u.2.2.2.2.1 hp.u.2.2.2.2.2;have hq:=HX h.t h.a;exact⟨⟨hp.v.sg,hq.1,ht.1,hf,hn.1⟩,⟨hp.v.sg,hq.2,ht.2,hf,hn.2⟩⟩
def AW.n3{p:aB}{k:Int}{e:J}{s:O}(h:AW p k e s)(h2:cC p.sig (dC s.ar s.bo (cp p k s.use).left)=false\/cC p.sig (dC s.ar s.bo (cp p k s.use).right)=false):jO p k e s=J.mk (0:Int) (0:Int) []/\iw p k e s=3:=by
 refine ZF ?_ (by decide);rw[h.c];unfold Uc;rcases h2 with h2|h2<;>rw[h2]<;>simp
def AW.t1{p:aB}{k:Int}{e:J}{s:O}(h:AW p k e s)(h1:cC p.sig (dC s.ar s.bo (cp p k s.use).left)=true)(h2:cC p.sig (dC s.ar s.bo (cp p k s.use).right)=true)(hb:s.back=true):Df p k e s (EA (cp p k s.use).right s.ar s.bo) (EA (cp p k s.use).left s.ar s.bo) :=
 ⟨h,by unfold Uc;rw[h1,h2];rfl,by rw[TY h2];unfold ZE;rw[hb];rfl,by rw[TY h1];unfold Ud;rw[hb];rfl⟩
def AW.t0{p:aB}{k:Int}{e:J}{s:O}(h:AW p k e s)(h1:cC p.sig (dC s.ar s.bo (cp p k s.use).left)=true)(h2:cC p.sig (dC s.ar s.bo (cp p k s.use).right)=true)(hb:s.back=false):Df p k e s (EA (cp p k s.use).left s.ar s.bo) (EA (cp p k s.use).right s.ar s.bo) :=
 ⟨h,by unfold Uc;rw[h1,h2];rfl,by rw[TY h1];unfold ZE;rw[hb];rfl,by rw[TY h2];unfold Ud;rw[hb];rfl⟩
def Df.nd{p:aB}{k:Int}{e:J}{s:O}{x y:J}(h:Df p k e s x y):A7 e s.path=IH e s.path:=by
 unfold A7;rw[h.r.n,(VI _ _ h.r.n).1];rfl
def Df.d6{p:aB}{k:Int}{e:J}{s:O}{x y:J}(h:Df p k e s x y)(h2:bT (IH e s.path) x=false):jO p k e s=J.mk (0:Int) (0:Int) []/\iw p k e s=6:=h.c6 (by rw[h.nd];exact h2)
def Df.dgo{p:aB}{k:Int}{e:J}{s:O}{x y:J}(h:Df p k e s x y)(h2:bT (IH e s.path) x=true):jO p k e s=yc p.sig e s.path y/\iw p k e s=sd p.sig e s.path y:=h.go (by rw[h.nd];exact h2)
def Df.rq{p:aB}{k:Int}{e:J}{s:O}{x y:J}(h:Df p k e s x y)(hp:No p k e s):RqP p.sig e y:=⟨hp.v.sg,Fg _ _ hp.e,h.sz⟩
def nP:aQ:=⟨wa,[.r (.st .proof), .v (.int .i64), .r (.st .expr), .r (.st .proofStep)],λ (p:aB) (k:Int) (e:J) (s:O)=>⟨(some (No p k e s),[⟨(.st .expr),jO p k e s⟩,⟨(.int .i64),iw p k e s⟩])⟩⟩
def Ej(p:aB)(k:Int)(e:J)(s:O):Nat->aM:=λ _ => .none
abbrev zY(p:aB)(k:Int)(e:J)(s:O):Prop:=((s.back=true ->
 (((!(bT (IH e s.path) (ag (EA (ag (cp p k s.use).right) s.ar s.bo))))=true ->
 (zE=(jO p k e s)/\(6:Int)=(iw p k e s)))/\((!(bT (IH e s.path) (ag (EA (ag (cp p k s.use).right) s.ar s.bo))))=false ->
 (RqP p.sig e (ag (EA (ag (cp p k s.use).left) s.ar s.bo))/\(s.path.length<=140737488355328 ->
 (U (sd p.sig e s.path (ag (EA (ag (cp p k s.use).left) s.ar s.bo))) ->
 ((ag (yc p.sig e s.path (ag (EA (ag (cp p k s.use).left) s.ar s.bo))))=(jO p k e s)/\(sd p.sig e s.path (ag (EA (ag (cp p k s.use).left) s.ar s.bo)))=(iw p k e s))))))))/\(s.back=false ->
 (((!(bT (IH e s.path) (ag (EA (ag (cp p k s.use).left) s.ar s.bo))))=true ->
 (zE=(jO p k e s)/\(6:Int)=(iw p k e s)))/\((!(bT (IH e s.path) (ag (EA (ag (cp p k s.use).left) s.ar s.bo))))=false ->
 (RqP p.sig e (ag (EA (ag (cp p k s.use).right) s.ar s.bo))/\(s.path.length<=140737488355328 ->
 (U (sd p.sig e s.path (ag (EA (ag (cp p k s.use).right) s.ar s.bo))) ->
 ((ag (yc p.sig e s.path (ag (EA (ag (cp p k s.use).right) s.ar s.bo))))=(jO p k e s)/\(sd p.sig e s.path (ag (EA (ag (cp p k s.use).right) s.ar s.bo)))=(iw p k e s)))))))))
abbrev zZ(p:aB)(k:Int)(e:J)(s:O):Prop:=(s.ar.length<=140737488355328 ->
 (s.bo.length<=140737488355328 ->
 (p=p/\(p=p/\(p.sig=p.sig/\(p.sig=p.sig/\(((10:Nat)=10/\(0:Nat)=0)/\(s=s/\(s=s/\(s.ar=s.ar/\(s.ar=s.ar/\(s=s/\(s=s/\(s.bo=s.bo/\(s.bo=s.bo/\(suP p.sig (ag (cp p k s.use).left) s.ar s.bo/\(s.ar.length<=140737488355328 ->
 (s.bo.length<=140737488355328 ->
 (p=p/\(p=p/\(p.sig=p.sig/\(p.sig=p.sig/\(((10:Nat)=10/\(3:Nat)=3)/\(s=s/\(s=s/\(s.ar=s.ar/\(s.ar=s.ar/\(s=s/\(s=s/\(s.bo=s.bo/\(s.bo=s.bo/\(suP p.sig (ag (cp p k s.use).right) s.ar s.bo/\(((!(cC p.sig (dC s.ar s.bo (ag (cp p k s.use).left))))=false ->
 (((!(cC p.sig (dC s.ar s.bo (ag (cp p k s.use).right))))=true ->
 (zE=(jO p k e s)/\(3:Int)=(iw p k e s)))/\((!(cC p.sig (dC s.ar s.bo (ag (cp p k s.use).right))))=false ->
 (zY p k e s))))/\((!(cC p.sig (dC s.ar s.bo (ag (cp p k s.use).left))))=(!false) ->
 ((true=true ->
 (zE=(jO p k e s)/\(3:Int)=(iw p k e s)))/\(true=false ->
 (zY p k e s)))))))))))))))))))))))))))))))))))))
abbrev z6(p:aB)(k:Int)(e:J)(s:O):Prop:=(((!(fP e s.path))=true ->
 (zE=(jO p k e s)/\(2:Int)=(iw p k e s)))/\((!(fP e s.path))=false ->
 (zZ p k e s)))
abbrev z7(p:aB)(k:Int)(e:J)(s:O):Prop:=((true=true ->
 (zE=(jO p k e s)/\(2:Int)=(iw p k e s)))/\(true=false ->
 (zZ p k e s)))
def PZ(p:aB)(k:Int)(e:J)(s:O):ck (aZ [pz,py,uM,sV,oU]) (az kG) (Ej p k e s) 0 (bx (aZ [pz,py,uM,sV,oU]) kG λ r=>bB r [⟨(.st .expr),jO p k e s⟩,⟨(.int .i64),iw p k e s⟩]) (aL kG [.ref ⟨(.st .proof),p⟩, .val ⟨(.int .i64),k⟩, .ref ⟨(.st .expr),e⟩, .ref ⟨(.st .proofStep),s⟩]) =
 ((U s.use ->
 ((s.use<=23 /\ -40<=s.use/\0<=k/\k<=(p.aq.length:Int))/\(((!(sf k s.use))=true ->
 (zE=(jO p k e s)/\(2:Int)=(iw p k e s)))/\((!(sf k s.use))=false ->
 ((br 62 62 (b9 (cp p k s.use)).left=true/\br 62 62 (b9 (cp p k s.use)).right=true)/\(U ((bW [(b9 (cp p k s.use)).left,(b9 (cp p k s.use)).right]).1) ->
 (U ((bW [(b9 (cp p k s.use)).left,(b9 (cp p k s.use)).right]).2) ->
 (s.path.length<=140737488355328 ->
 (s.ar.length<=140737488355328 ->
 (U ((s.ar.length:Int)) ->
 (((!(decide (((s.ar.length:Int))=((bW [(b9 (cp p k s.use)).left,(b9 (cp p k s.use)).right]).1))))=false ->
 (s.bo.length<=140737488355328 ->
 (U ((s.bo.length:Int)) ->
 (((!(decide (((s.bo.length:Int))=((bW [(b9 (cp p k s.use)).left,(b9 (cp p k s.use)).right]).2))))=false ->
 (z6 p k e s))/\((!(decide (((s.bo.length:Int))=((bW [(b9 (cp p k s.use)).left,(b9 (cp p k s.use)).right]).2))))=(!false) ->
 (z7 p k e s))))))/\((!(decide (((s.ar.length:Int))=((bW [(b9 (cp p k s.use)).left,(b9 (cp p k s.use)).right]).1))))=(!false) ->
 ((true=false ->
 (z6 p k e s))/\(true=(!false) ->
 (z7 p k e s)))))))))))))))):=by kernel_rfl
def Pf(hE:aI [pz,py,uM,sV,oU]):aQ.Good nP:=by
 refine⟨aA Bu rfl (by decide),?_⟩;show ∀ (p:aB) (k:Int) (e:J) (s:O),(No p k e s)->bC prog wa [.ref ⟨(.st .proof),p⟩, .val ⟨(.int .i64),k⟩, .ref ⟨(.st .expr),e⟩, .ref ⟨(.st .proofStep),s⟩] (·=[⟨(.st .expr),jO p k e s⟩,⟨(.int .i64),iw p k e s⟩]);intro p k e s hp;refine bg (wr:=[]) (cl:=[]) (ro:=[]) hE Bu JX (Ej p k e s) ?_;rewrite [PZ p k e s];refine λ _=>⟨?_,λ _=>⟨?_,?_⟩,λ _=>⟨?_,λ _ _ _ _ _=>⟨λ _ _ _=>⟨λ _=>⟨λ _=>⟨?_,?_⟩,λ _ _ _=>⟨rfl,rfl,rfl,rfl,⟨?_,?_⟩,rfl,rfl,rfl,rfl,rfl,rfl,rfl,rfl,?_,λ _ _=>⟨rfl,rfl,rfl,rfl,⟨?_,?_⟩,rfl,rfl,rfl,rfl,rfl,rfl,rfl,rfl,?_,λ _=>⟨λ _=>⟨?_,?_⟩,λ _=>⟨λ _=>⟨λ _=>⟨?_,?_⟩,λ _=>⟨?_,λ _ _=>⟨?_,?_⟩⟩⟩,λ _=>⟨λ _=>⟨?_,?_⟩,λ _=>⟨?_,λ _ _=>⟨?_,?_⟩⟩⟩⟩⟩,λ _=>⟨λ _=>⟨?_,?_⟩,λ _=>⟨λ _=>⟨λ _=>⟨?_,?_⟩,λ _=>⟨?_,λ _ _=>⟨?_,?_⟩⟩⟩,λ _=>⟨λ _=>⟨?_,?_⟩,λ _=>⟨?_,λ _ _=>⟨?_,?_⟩⟩⟩⟩⟩⟩⟩⟩,λ _=>⟨λ _=>⟨?_,?_⟩,λ _ _ _=>⟨rfl,rfl,rfl,rfl,⟨?_,?_⟩,rfl,rfl,rfl,rfl,rfl,rfl,rfl,rfl,?_,λ _ _=>⟨rfl,rfl,rfl,rfl,⟨?_,?_⟩,rfl,rfl,rfl,rfl,rfl,rfl,rfl,rfl,?_,λ _=>⟨λ _=>⟨?_,?_⟩,λ _=>⟨λ _=>⟨λ _=>⟨?_,?_⟩,λ _=>⟨?_,λ _ _=>⟨?_,?_⟩⟩⟩,λ _=>⟨λ _=>⟨?_,?_⟩,λ _=>⟨?_,λ _ _=>⟨?_,?_⟩⟩⟩⟩⟩,λ _=>⟨λ _=>⟨?_,?_⟩,λ _=>⟨λ _=>⟨λ _=>⟨?_,?_⟩,λ _=>⟨?_,λ _ _=>⟨?_,?_⟩⟩⟩,λ _=>⟨λ _=>⟨?_,?_⟩,λ _=>⟨?_,λ _ _=>⟨?_,?_⟩⟩⟩⟩⟩⟩⟩⟩⟩,λ _=>⟨λ _=>⟨λ _=>⟨?_,?_⟩,λ _ _ _=>⟨rfl,rfl,rfl,rfl,⟨?_,?_⟩,rfl,rfl,rfl,rfl,rfl,rfl,rfl,rfl,?_,λ _ _=>⟨rfl,rfl,rfl,rfl,⟨?_,?_⟩,rfl,rfl,rfl,rfl,rfl,rfl,rfl,rfl,?_,λ _=>⟨λ _=>⟨?_,?_⟩,λ _=>⟨λ _=>⟨λ _=>⟨?_,?_⟩,λ _=>⟨?_,λ _ _=>⟨?_,?_⟩⟩⟩,λ _=>⟨λ _=>⟨?_,?_⟩,λ _=>⟨?_,λ _ _=>⟨?_,?_⟩⟩⟩⟩⟩,λ _=>⟨λ _=>⟨?_,?_⟩,λ _=>⟨λ _=>⟨λ _=>⟨?_,?_⟩,λ _=>⟨?_,λ _ _=>⟨?_,?_⟩⟩⟩,λ _=>⟨λ _=>⟨?_,?_⟩,λ _=>⟨?_,λ _ _=>⟨?_,?_⟩⟩⟩⟩⟩⟩⟩⟩,λ _=>⟨λ _=>⟨?_,?_⟩,λ _ _ _=>⟨rfl,rfl,rfl,rfl,⟨?_,?_⟩,rfl,rfl,rfl,rfl,rfl,rfl,rfl,rfl,?_,λ _ _=>⟨rfl,rfl,rfl,rfl,⟨?_,?_⟩,rfl,rfl,rfl,rfl,rfl,rfl,rfl,rfl,?_,λ _=>⟨λ _=>⟨?_,?_⟩,λ _=>⟨λ _=>⟨λ _=>⟨?_,?_⟩,λ _=>⟨?_,λ _ _=>⟨?_,?_⟩⟩⟩,λ _=>⟨λ _=>⟨?_,?_⟩,λ _=>⟨?_,λ _ _=>⟨?_,?_⟩⟩⟩⟩⟩,λ _=>⟨λ _=>⟨?_,?_⟩,λ _=>⟨λ _=>⟨λ _=>⟨?_,?_⟩,λ _=>⟨?_,λ _ _=>⟨?_,?_⟩⟩⟩,λ _=>⟨λ _=>⟨?_,?_⟩,λ _=>⟨?_,λ _ _=>⟨?_,?_⟩⟩⟩⟩⟩⟩⟩⟩⟩⟩⟩⟩;all_goals try and_intros
 all_goals try (first|with_reducible rfl|with_reducible assumption)
 all_goals try simp only[J.eta,ae.eta,aH.eta,aU,bM,ct] at *
 all_goals first|with_reducible rfl|with_reducible assumption|exact True.intro|(simp only[b0W,b0V,b0X,b0U] at *;done)|((try simp only[b1F,J.eta,b0N,b0M,b0X,b0U,b1i,b1B,aC,U,bF,b1l,b0Z,b1n,b1o,b1C] at *);first|exact True.intro|omega|exact hp.u.1.1|exact hp.u.1.2|exact hp.k0|exact hp.k1|(have:=hp.u;omega)|exact (Jc hp.v hp.k1 hp.u.1.2 (by with_reducible assumption)).1|exact (Jc hp.v hp.k1 hp.u.1.2 (by with_reducible assumption)).2|((first|have Q:=a2j (p:=p) (k:=k) (e:=e) (s:=s) (.inl (by with_reducible assumption))|have Q:=a2j (p:=p) (k:=k) (e:=e) (s:=s) (.inr (by with_reducible assumption))|have Q:=a2k (p:=p) (k:=k) (e:=e) (s:=s) (a4p (by omega))|have Q:=a2k (p:=p) (k:=k) (e:=e) (s:=s) (a4q (by omega)));first|exact Q.1|exact Q.2|exact Q.1.symm|exact Q.2.symm)|(have A:AW p k e s:=⟨(by with_reducible assumption),(by with_reducible assumption),by omega,by omega⟩;first|exact (A.su hp).1|exact (A.su hp).2|((first|have Q:=(A.n3 (.inl (by with_reducible assumption)))|have Q:=(A.n3 (.inr (by with_reducible assumption))));first|exact Q.1|exact Q.2|exact Q.1.symm|exact Q.2.symm)|(have B:=A.t1 (by with_reducible assumption) (by with_reducible assumption) (by with_reducible assumption);first|exact B.rq hp|((first|have Q:=(B.d6 (by with_reducible assumption))|have Q:=(B.dgo (by with_reducible assumption)));first|exact Q.1|exact Q.2|exact Q.1.symm|exact Q.2.symm))|(have B:=A.t0 (by with_reducible assumption) (by with_reducible assumption) (by with_reducible assumption);first|exact B.rq hp|((first|have Q:=(B.d6 (by with_reducible assumption))|have Q:=(B.dgo (by with_reducible assumption)));first|exact Q.1|exact Q.2|exact Q.1.symm|exact Q.2.symm))))
def Kc:aQ.Good nP:=Pf ⟨Mj,Mh,Ox,Me,GS,af⟩
end
end Go.Proofs.YtmjfpcajohhbeaaGreatDoor

namespace Go.Proofs.YtmjfpcajohhbeaaGreatDoor
noncomputable section
def stX(f:ae):J:=(f.left.M.getD 0 zE).M.getD 1 zE
def stQ(f:ae):J:=(f.left.M.getD 0 zE).M.getD 0 zE
def W4(f:ae):J:=f.left.M.getD 1 zE
def stH(f:ae):Bool:=decide (f.left.au=6)&&(decide ((f.left.M.getD 0 zE).au=6)&&decide (((f.left.M.getD 0 zE).M.getD 1 zE).au=7))
def stF(c f:ae):Bool:=stH f&&(if c.cj=3 then bT ((stX f).M.getD 0 zE) (W4 f)&&(bT f.right (W4 f)&&(bT c.right (W4 f)&&bT c.left (J.mk 6 0 [J.mk 7 0 [stQ f,J.mk 8 0 [(stX f).M.getD 1 zE]],W4 f])))
 else bT ((stX f).M.getD 1 zE) (W4 f)&&(bT f.right (W4 f)&&(bT c.right (W4 f)&&bT c.left (J.mk 6 0 [J.mk 7 0 [J.mk 8 0 [(stX f).M.getD 0 zE],stQ f],W4 f]))))
def a9Z{c f:ae}(h:stH f=false):stF c f=false:=by unfold stF;rw[h];rfl
structure InR(c f:ae):Prop where
 q:InQ c f
 r:c.cj=2\/c.cj=3
 s1:aw f.left<=1048576
def a8C{c f:ae}(h:c.cj=2\/c.cj=3):stF c f=inF c f:=by
 by_cases hm:Rl (aH.mk f.left f.right)=true
 .have e:=a3c hm;unfold Rl at hm;simp only[Bool.and_eq_true,decide_eq_true_eq] at hm;obtain⟨⟨m1,m2⟩,m3⟩:=hm;have hr:f.left.M.getD 1 zE=f.right:=zH.1 m3;unfold inF stF stH stX stQ W4;rw[e.1,e.2.1,show Rl (aH.mk f.left f.right)=true by unfold Rl;simp only[Bool.and_eq_true,decide_eq_true_eq];exact⟨⟨m1,m2⟩,m3⟩,decide_eq_true m1,decide_eq_true m2,hr];have hrr:bT f.right f.right=true:=zH.2 rfl;unfold a7y inW;rcases h with h|h
  .rw[b1q h,b1q h,b0Y (show ¬ c.cj=3 by omega),hrr];simp only[b2n];cases decide (((f.left.M.getD 0 zE).M.getD 1 zE).au=7)<;>simp only[b2n,b2v];cases bT (((f.left.M.getD 0 zE).M.getD 1 zE).M.getD 1 zE) f.right<;>simp only[b2n,b2v];rw[Bool.and_comm]
  .rw[b0Y (show ¬ c.cj=2 by omega),b0Y (show ¬ c.cj=2 by omega),b1q h,hrr];simp only[b2n];cases decide (((f.left.M.getD 0 zE).M.getD 1 zE).au=7)<;>simp only[b2n,b2v];cases bT (((f.left.M.getD 0 zE).M.getD 1 zE).M.getD 0 zE) f.right<;>simp only[b2n,b2v];rw[Bool.and_comm]
 .have hm':Rl (aH.mk f.left f.right)=false:=Bool.eq_false_iff.2 hm;have hi:inF c f=false:=by unfold inF;rw[hm'];rfl
  rw[hi];by_cases hh:stH f=true
  .have hn:bT f.right (W4 f)=false:=by
    refine Bool.eq_false_iff.2 λ q=>hm ?_;have q:=zH.1 q;unfold stH at hh;simp only[Bool.and_eq_true,decide_eq_true_eq] at hh;unfold Rl;simp only[Bool.and_eq_true,decide_eq_true_eq];exact⟨⟨hh.1,hh.2.1⟩,zH.2 q.symm⟩
   unfold stF;rw[hh,hn];simp
  .rw[a9Z (Bool.eq_false_iff.2 hh)]
def SF.ir{p:aB}{k:Int}(h:SF p k)(h1:¬ (fj p k).cj=1)(h2:(fj p k).ref<k):InR (fj p k) (fj p (fj p k).ref):=by
 have a:=h.i h2;have b:=h.b.2.2.1;exact⟨a.1,by omega,Fg _ _ (h.v.e (i:=(fj p k).ref) a.2.1 a.2.2).1⟩
def SF.st{p:aB}{k:Int}(h:SF p k)(h1:¬ (fj p k).cj=1)(h2:(fj p k).ref<k):stF (fj p k) (fj p (fj p k).ref)=inF (fj p k) (fj p (fj p k).ref):=a8C (h.ir h1 h2).r
end
end Go.Proofs.YtmjfpcajohhbeaaGreatDoor

set_option maxRecDepth 4000
set_option maxHeartbeats 4000000
namespace Go.Proofs.YtmjfpcajohhbeaaGreatDoor
noncomputable section
def ND(p:aB)(e:J)(s:O):Bool:=jj p&&(cC p.sig e&&ka p.sig s)
def asK(p:aB)(k:Int):Bool:=decide (0<=k/\k<=(p.aq.length:Int))
def dB(p:aB)(k:Int)(e:J)(s:O):J:=bif ND p e s&&asK p k then jO p k e s else J.mk (0:Int) (0:Int) []
def qs(p:aB)(k:Int)(e:J)(s:O):Int:=bif ND p e s then (bif asK p k then iw p k e s else 2) else 1
def Xj{p:aB}{k:Int}{e:J}{s:O}(h:ND p e s=false):dB p k e s=J.mk (0:Int) (0:Int) []/\qs p k e s=1:=by unfold dB qs;rw[h];exact⟨rfl,rfl⟩
def a2m{p:aB}{k:Int}{e:J}{s:O}(h:ND p e s=true)(h2:¬ (0<=k/\k<=(p.aq.length:Int))):dB p k e s=J.mk (0:Int) (0:Int) []/\qs p k e s=2:=by unfold dB qs asK;rw[h,decide_eq_false h2];exact⟨rfl,rfl⟩
def a2n{p:aB}{k:Int}{e:J}{s:O}(h:ND p e s=true)(h2:0<=k/\k<=(p.aq.length:Int)):dB p k e s=jO p k e s/\qs p k e s=iw p k e s:=by unfold dB qs asK;rw[h,decide_eq_true h2];exact⟨rfl,rfl⟩
def a4s{p:aB}{e:J}{s:O}(h:jj p=false):ND p e s=false:=by unfold ND;rw[h];rfl
def a4t{p:aB}{e:J}{s:O}(h1:jj p=true)(h:oz p.sig e=false):ND p e s=false:=by unfold ND;rw[<-Ck (Cs.mk h1).sg e,h];simp
def a4u{p:aB}{e:J}{s:O}(h:ka p.sig s=false):ND p e s=false:=by unfold ND;rw[h];simp
def Hu{p:aB}{e:J}{s:O}(h1:jj p=true)(h2:oz p.sig e=true)(h3:ka p.sig s=true):ND p e s=true:=by unfold ND;rw[<-Ck (Cs.mk h1).sg e,h1,h2,h3];rfl
def Ys{p:aB}{k:Int}{e:J}{s:O}(h1:jj p=true)(h2:oz p.sig e=true)(h3:ka p.sig s=true)(h4:0<=k/\k<=(p.aq.length:Int)):No p k e s:=⟨⟨h1⟩,h4.1,h4.2,by rw[<-Ck (Cs.mk h1).sg e];exact h2,h3⟩
def a6j(p:aB)(k:Int)(e:J)(s:O):aw (dB p k e s)<=1048576:=by
 unfold dB;cases ND p e s&&asK p k
 .exact b1r rfl
 .show aw (jO p k e s)<=_;by_cases h:iw p k e s=0
  .exact Fg p.sig _ (ZD h)
  .unfold jO;rw[if_neg h];exact Nat.le_of_ble_eq_true rfl
def la:aQ:=⟨uS,[.v (.st .proof), .v (.int .i64), .v (.st .expr), .v (.st .proofStep)],λ (p:aB) (k:Int) (e:J) (s:O)=>⟨(none,[⟨(.st .expr),dB p k e s⟩,⟨(.int .i64),qs p k e s⟩])⟩⟩
def Ah(p:aB)(k:Int)(e:J)(s:O):Nat->aM:=λ _ => .none
abbrev xb(p:aB)(k:Int)(e:J)(s:O):Prop:=(p.aq.length<=140737488355328 ->
 (U ((p.aq.length:Int)) ->
 ((((!(decide ((0:Int)<=k/\k<=((p.aq.length:Int)))))=true) ->
 (zE=(dB p k e s)/\(2:Int)=(qs p k e s)))/\(((!(decide ((0:Int)<=k/\k<=((p.aq.length:Int)))))=false) ->
 (No p k e s/\(U (iw p k e s) ->
 ((ag (jO p k e s))=(dB p k e s)/\(iw p k e s)=(qs p k e s))))))))
abbrev xc(p:aB)(k:Int)(e:J)(s:O):Prop:=(bS p.sig=true/\(((!(ka p.sig s))=true ->
 (zE=(dB p k e s)/\(1:Int)=(qs p k e s)))/\((!(ka p.sig s))=false ->
 (xb p k e s))))
abbrev xd(p:aB)(k:Int)(e:J)(s:O):Prop:=((true=true ->
 (zE=(dB p k e s)/\(1:Int)=(qs p k e s)))/\(true=false ->
 (xb p k e s)))
def KG(p:aB)(k:Int)(e:J)(s:O):ck (cg [kV,mj,iY,cu] [ld] [] [39] [] [] [4,6,7]) (az jn) (Ah p k e s) 0 (dN (cg [kV,mj,iY,cu] [ld] [] [39] [] [] [4,6,7]) jn λ r=>bB r [⟨(.st .expr),dB p k e s⟩,⟨(.int .i64),qs p k e s⟩]) (fE jn [.val ⟨(.st .proof),p⟩, .val ⟨(.int .i64),k⟩, .val ⟨(.st .expr),e⟩, .val ⟨(.st .proofStep),s⟩]) =
 ((((!(jj p))=false ->
 (((!(oz p.sig e))=false ->
 (xc p k e s))/\((!(oz p.sig e))=(!false) ->
 (xd p k e s))))/\((!(jj p))=(!false) ->
 ((true=false ->
 (xc p k e s))/\(true=(!false) ->
 (xd p k e s)))))):=by kernel_rfl
def Kw(hE:aI [kV,mj,iY,cu])(hO:dL [ld])(hM:ed [])(hS:dP []):aQ.df la:=by
 refine⟨aA zk rfl (by decide),?_⟩;show ∀ (p:aB) (k:Int) (e:J) (s:O),True->fH prog uS [.val ⟨(.st .proof),p⟩, .val ⟨(.int .i64),k⟩, .val ⟨(.st .expr),e⟩, .val ⟨(.st .proofStep),s⟩] [⟨(.st .expr),dB p k e s⟩,⟨(.int .i64),qs p k e s⟩];intro p k e s _;refine cV (own:=[39]) (wr:=[]) (cl:=[]) (ro:=[4,6,7]) hE hO hM hS zk HD (Ah p k e s) ?_;rewrite [KG p k e s];refine⟨λ _=>⟨λ _=>⟨?_,λ _=>⟨?_,?_⟩,λ _ _ _=>⟨λ _=>⟨?_,?_⟩,λ _=>⟨?_,λ _=>⟨?_,?_⟩⟩⟩⟩,λ _=>⟨λ _=>⟨?_,?_⟩,λ _ _ _=>⟨λ _=>⟨?_,?_⟩,λ _=>⟨?_,λ _=>⟨?_,?_⟩⟩⟩⟩⟩,λ _=>⟨λ _=>⟨?_,λ _=>⟨?_,?_⟩,λ _ _ _=>⟨λ _=>⟨?_,?_⟩,λ _=>⟨?_,λ _=>⟨?_,?_⟩⟩⟩⟩,λ _=>⟨λ _=>⟨?_,?_⟩,λ _ _ _=>⟨λ _=>⟨?_,?_⟩,λ _=>⟨?_,λ _=>⟨?_,?_⟩⟩⟩⟩⟩⟩;all_goals try and_intros
 all_goals try (first|with_reducible rfl|with_reducible assumption)
 all_goals try simp only[J.eta,ae.eta,aH.eta,aU,bM,ct] at *
 all_goals first|with_reducible rfl|with_reducible assumption|exact True.intro|(simp only[b0W,b0V,b0X,b0U] at *;done)|((try simp only[b1F,J.eta,b0N,b0M,b0X,b0U,b1i,b1B,aC,U,bF,b1l,b0Z,b1n,b1o,b1C] at *);first|exact True.intro|omega|exact (Cs.mk (by with_reducible assumption)).sg|exact Ys (by with_reducible assumption) (by with_reducible assumption) (by with_reducible assumption) (by with_reducible assumption)|exact Ys (by with_reducible assumption) (by with_reducible assumption) (by with_reducible assumption) (by omega)|((first|have Q:=Xj (p:=p) (k:=k) (e:=e) (s:=s) (a4s (by with_reducible assumption))|have Q:=Xj (p:=p) (k:=k) (e:=e) (s:=s) (a4t (by with_reducible assumption) (by with_reducible assumption))|have Q:=Xj (p:=p) (k:=k) (e:=e) (s:=s) (a4u (by with_reducible assumption))|have Q:=a2m (p:=p) (k:=k) (e:=e) (s:=s) (Hu (by with_reducible assumption) (by with_reducible assumption) (by with_reducible assumption)) (by with_reducible assumption)|have Q:=a2m (p:=p) (k:=k) (e:=e) (s:=s) (Hu (by with_reducible assumption) (by with_reducible assumption) (by with_reducible assumption)) (by omega)|have Q:=a2n (p:=p) (k:=k) (e:=e) (s:=s) (Hu (by with_reducible assumption) (by with_reducible assumption) (by with_reducible assumption)) (by with_reducible assumption)|have Q:=a2n (p:=p) (k:=k) (e:=e) (s:=s) (Hu (by with_reducible assumption) (by with_reducible assumption) (by with_reducible assumption)) (by omega));first|exact Q.1|exact Q.2|exact Q.1.symm|exact Q.2.symm))
def G6:aQ.df la:=Kw ⟨GQ,H3,BB,gS,af⟩ ⟨G7,af⟩ trivial trivial
def mn:aQ:=⟨ve,[.v (.st .proof), .v (.int .i64), .v (.st .expr), .v (.st .proofStep)],λ (p:aB) (k:Int) (e:J) (s:O)=>⟨(none,[⟨(.st .expr),dB p k e s⟩,⟨(.int .i64),qs p k e s⟩])⟩⟩
def B3(p:aB)(k:Int)(e:J)(s:O):Nat->aM:=λ _ => .none
abbrev yq(p:aB)(k:Int)(e:J)(s:O):Prop:=(p.aq.length<=140737488355328 ->
 (U ((p.aq.length:Int)) ->
 ((((!(decide ((0:Int)<=k/\k<=((p.aq.length:Int)))))=true) ->
 (zE=(dB p k e s)/\(2:Int)=(qs p k e s)))/\(((!(decide ((0:Int)<=k/\k<=((p.aq.length:Int)))))=false) ->
 (No p k e s/\(U (iw p k e s) ->
 ((ag (jO p k e s))=(dB p k e s)/\(iw p k e s)=(qs p k e s))))))))
abbrev yr(p:aB)(k:Int)(e:J)(s:O):Prop:=(bS p.sig=true/\(((!(ka p.sig s))=true ->
 (zE=(dB p k e s)/\(1:Int)=(qs p k e s)))/\((!(ka p.sig s))=false ->
 (yq p k e s))))
abbrev yv(p:aB)(k:Int)(e:J)(s:O):Prop:=((true=true ->
 (zE=(dB p k e s)/\(1:Int)=(qs p k e s)))/\(true=false ->
 (yq p k e s)))
def Nb(p:aB)(k:Int)(e:J)(s:O):ck (aZ [sx,dZ,iz,cQ,nP] [] [] [4,6,7]) (az ju) (B3 p k e s) 0 (bx (aZ [sx,dZ,iz,cQ,nP] [] [] [4,6,7]) ju λ r=>bB r [⟨(.st .expr),dB p k e s⟩,⟨(.int .i64),qs p k e s⟩]) (aL ju [.val ⟨(.st .proof),p⟩, .val ⟨(.int .i64),k⟩, .val ⟨(.st .expr),e⟩, .val ⟨(.st .proofStep),s⟩]) =
 ((((!(jj p))=false ->
 (((!(oz p.sig e))=false ->
 (yr p k e s))/\((!(oz p.sig e))=(!false) ->
 (yv p k e s))))/\((!(jj p))=(!false) ->
 ((true=false ->
 (yr p k e s))/\(true=(!false) ->
 (yv p k e s)))))):=by kernel_rfl
def ML(hE:aI [sx,dZ,iz,cQ,nP]):aQ.Good mn:=by
 refine⟨aA zq rfl (by decide),?_⟩;show ∀ (p:aB) (k:Int) (e:J) (s:O),True->bC prog ve [.val ⟨(.st .proof),p⟩, .val ⟨(.int .i64),k⟩, .val ⟨(.st .expr),e⟩, .val ⟨(.st .proofStep),s⟩] (·=[⟨(.st .expr),dB p k e s⟩,⟨(.int .i64),qs p k e s⟩]);intro p k e s _;refine bg (wr:=[]) (cl:=[]) (ro:=[4,6,7]) hE zq HK (B3 p k e s) ?_;rewrite [Nb p k e s];refine⟨λ _=>⟨λ _=>⟨?_,λ _=>⟨?_,?_⟩,λ _ _ _=>⟨λ _=>⟨?_,?_⟩,λ _=>⟨?_,λ _=>⟨?_,?_⟩⟩⟩⟩,λ _=>⟨λ _=>⟨?_,?_⟩,λ _ _ _=>⟨λ _=>⟨?_,?_⟩,λ _=>⟨?_,λ _=>⟨?_,?_⟩⟩⟩⟩⟩,λ _=>⟨λ _=>⟨?_,λ _=>⟨?_,?_⟩,λ _ _ _=>⟨λ _=>⟨?_,?_⟩,λ _=>⟨?_,λ _=>⟨?_,?_⟩⟩⟩⟩,λ _=>⟨λ _=>⟨?_,?_⟩,λ _ _ _=>⟨λ _=>⟨?_,?_⟩,λ _=>⟨?_,λ _=>⟨?_,?_⟩⟩⟩⟩⟩⟩;all_goals try and_intros
 all_goals try (first|with_reducible rfl|with_reducible assumption)
 all_goals try simp only[J.eta,ae.eta,aH.eta,aU,bM,ct] at *
 all_goals first|with_reducible rfl|with_reducible assumption|exact True.intro|(simp only[b0W,b0V,b0X,b0U] at *;done)|((try simp only[b1F,J.eta,b0N,b0M,b0X,b0U,b1i,b1B,aC,U,bF,b1l,b0Z,b1n,b1o,b1C] at *);first|exact True.intro|omega|exact (Cs.mk (by with_reducible assumption)).sg|exact Ys (by with_reducible assumption) (by with_reducible assumption) (by with_reducible assumption) (by with_reducible assumption)|exact Ys (by with_reducible assumption) (by with_reducible assumption) (by with_reducible assumption) (by omega)|((first|have Q:=Xj (p:=p) (k:=k) (e:=e) (s:=s) (a4s (by with_reducible assumption))|have Q:=Xj (p:=p) (k:=k) (e:=e) (s:=s) (a4t (by with_reducible assumption) (by with_reducible assumption))|have Q:=Xj (p:=p) (k:=k) (e:=e) (s:=s) (a4u (by with_reducible assumption))|have Q:=a2m (p:=p) (k:=k) (e:=e) (s:=s) (Hu (by with_reducible assumption) (by with_reducible assumption) (by with_reducible assumption)) (by with_reducible assumption)|have Q:=a2m (p:=p) (k:=k) (e:=e) (s:=s) (Hu (by with_reducible assumption) (by with_reducible assumption) (by with_reducible assumption)) (by omega)|have Q:=a2n (p:=p) (k:=k) (e:=e) (s:=s) (Hu (by with_reducible assumption) (by with_reducible assumption) (by with_reducible assumption)) (by with_reducible assumption)|have Q:=a2n (p:=p) (k:=k) (e:=e) (s:=s) (Hu (by with_reducible assumption) (by with_reducible assumption) (by with_reducible assumption)) (by omega));first|exact Q.1|exact Q.2|exact Q.1.symm|exact Q.2.symm))
def H5:aQ.Good mn:=ML ⟨Qx,nF,zK,kJ,Kc,af⟩
end
end Go.Proofs.YtmjfpcajohhbeaaGreatDoor

set_option maxRecDepth 4000
set_option maxHeartbeats 4000000
namespace Go.Proofs.YtmjfpcajohhbeaaGreatDoor
noncomputable section
mutual
def a3n:∀ x:J,aJ x=2+2 * aw x
 | ⟨k,n,ks⟩=>by
  have:=LU ks;simp only[aJ,aw,this,FC]
def LU:∀ xs:List J,Cz xs=2 * (xs.length+aj aw xs)
 | []=>by simp[Cz,aj]
 | x::xs=>by
  have h1:=a3n x;have h2:=LU xs;simp only[Cz,aj,b0Z,h1,h2];omega
end
def DI(xs:List J):aj aJ xs=2 * (xs.length+aj aw xs):=by
 have:=LU xs;rwa [vH] at this
def N8(x:J):aj aJ x.M=2 * aw x:=by rw[DI,qU]
def a3o(k:Int)(x:J):aj aJ (bz k x.M)=aj aJ x.M:=by
 have:=Jn k x.M;rwa [vH,vH] at this
def Yw(x:O):av x<=2+2 * aK x:=by
 rw[uu,ov,DI,DI];omega
def KS:∀ xs:List O,aj av xs<=2 * (xs.length+aj aK xs)
 | []=>by simp[aj]
 | x::xs=>by
  have h1:=Yw x;have h2:=KS xs;simp only[aj,b0Z];omega
def WH(x:ae):ak x<=6+2 * bD x:=by
 have:=KS x.steps;rw[CA,yY,N8,N8];omega
def HQ:∀ xs:List ae,aj ak xs<=6 * (xs.length+aj bD xs)
 | []=>by simp[aj]
 | x::xs=>by
  have h1:=WH x;have h2:=HQ xs;simp only[aj,b0Z];omega
def WI(p:aB):aj ak p.aq<=6 * cX p:=by
 have:=HQ p.aq;rw[yZ];omega
def WJ(x:O):x.path.length+aj aJ x.ar+aj aJ x.bo<=2 * aK x:=by
 rw[ov,DI,DI];omega
def ss:aQ:=⟨iV,[.v (.st .proof), .v (.int .i64), .v (.st .expr), .v (.st .proofStep)],λ (p:aB) (k:Int) (e:J) (s:O)=>⟨(none,[⟨.bool,true⟩])⟩⟩
def sB(p:aB)(k:Int)(e:J)(s:O):Nat->aM:=λ _ => .none
abbrev qB(p:aB)(k:Int)(e:J)(s:O):Prop:=((decide ((dK (1:Int) (J.mk (dB p k (ag e) s).au (dB p k (ag e) s).aO ((J.mk (ag (dB p k (ag e) s)).au (ag (dB p k (ag e) s)).aO (bz (1:Int) (ag (dB p k (ag e) s)).M))).M).M)<(0:Int)))=true ->
 false=true)
abbrev qC(p:aB)(k:Int)(e:J)(s:O):Prop:=((!(decide ((dK (1:Int) (J.mk (dB p k (ag e) s).au (dB p k (ag e) s).aO ((J.mk (ag (dB p k (ag e) s)).au (ag (dB p k (ag e) s)).aO (bz (1:Int) (ag (dB p k (ag e) s)).M))).M).M)=((1:Int)+(aj aJ (ag (dB p k (ag e) s)).M:Int)))))=true ->
 false=true)
abbrev qD(p:aB)(k:Int)(e:J)(s:O):Prop:=((0<=(1:Int)/\(1:Int)+(aj aJ (J.mk (dB p k (ag e) s).au (dB p k (ag e) s).aO ((J.mk (ag (dB p k (ag e) s)).au (ag (dB p k (ag e) s)).aO (bz (1:Int) (ag (dB p k (ag e) s)).M))).M).M:Int)<=4611686018427387904)/\(U (dK (1:Int) (J.mk (dB p k (ag e) s).au (dB p k (ag e) s).aO ((J.mk (ag (dB p k (ag e) s)).au (ag (dB p k (ag e) s)).aO (bz (1:Int) (ag (dB p k (ag e) s)).M))).M).M) ->
 ((qB p k e s)/\((decide ((dK (1:Int) (J.mk (dB p k (ag e) s).au (dB p k (ag e) s).aO ((J.mk (ag (dB p k (ag e) s)).au (ag (dB p k (ag e) s)).aO (bz (1:Int) (ag (dB p k (ag e) s)).M))).M).M)<(0:Int)))=false ->
 ((qC p k e s)/\((!(decide ((dK (1:Int) (J.mk (dB p k (ag e) s).au (dB p k (ag e) s).aO ((J.mk (ag (dB p k (ag e) s)).au (ag (dB p k (ag e) s)).aO (bz (1:Int) (ag (dB p k (ag e) s)).M))).M).M)=((1:Int)+(aj aJ (ag (dB p k (ag e) s)).M:Int)))))=false ->
 true=true))))))
abbrev kU(p:aB)(k:Int)(e:J)(s:O):Prop:=((0<=(1:Int)/\(1:Int)+(aj aJ (ag (dB p k (ag e) s)).M:Int)<=4611686018427387904)/\((0<=(1:Int)/\(1:Int)+(aj aJ (J.mk (dB p k (ag e) s).au (dB p k (ag e) s).aO ((J.mk (ag (dB p k (ag e) s)).au (ag (dB p k (ag e) s)).aO (bz (1:Int) (ag (dB p k (ag e) s)).M))).M).M:Int)<=4611686018427387904)/\(U (dK (1:Int) (J.mk (dB p k (ag e) s).au (dB p k (ag e) s).aO ((J.mk (ag (dB p k (ag e) s)).au (ag (dB p k (ag e) s)).aO (bz (1:Int) (ag (dB p k (ag e) s)).M))).M).M) ->
 ((qB p k e s)/\((decide ((dK (1:Int) (J.mk (dB p k (ag e) s).au (dB p k (ag e) s).aO ((J.mk (ag (dB p k (ag e) s)).au (ag (dB p k (ag e) s)).aO (bz (1:Int) (ag (dB p k (ag e) s)).M))).M).M)<(0:Int)))=false ->
 ((qC p k e s)/\((!(decide ((dK (1:Int) (J.mk (dB p k (ag e) s).au (dB p k (ag e) s).aO ((J.mk (ag (dB p k (ag e) s)).au (ag (dB p k (ag e) s)).aO (bz (1:Int) (ag (dB p k (ag e) s)).M))).M).M)=((1:Int)+(aj aJ (ag (dB p k (ag e) s)).M:Int)))))=false ->
 (U k ->
 (p=p/\(k=k/\(e=e/\(s=s/\(cX p<=1048576/\(k=k/\(e=e/\(s=s/\(aw e<=1048576/\(k=k/\(s=s/\(aK s<=1048576/\(k=k/\(U (qs p k e s) ->
 (((!(bT (ag (dB p k e s)) (ag (dB p k e s))))=false ->
 (((!(decide ((qs p k e s)=(qs p k e s))))=true ->
 false=true)/\((!(decide ((qs p k e s)=(qs p k e s))))=false ->
 (qD p k e s))))/\((!(bT (ag (dB p k e s)) (ag (dB p k e s))))=(!false) ->
 ((true=true ->
 false=true)/\(true=false ->
 (qD p k e s)))))))))))))))))))))))))))
abbrev qE(p:aB)(k:Int)(e:J)(s:O):Prop:=(((!(decide ((qs p k (ag e) s)=(qs p k e s))))=true ->
 false=true)/\((!(decide ((qs p k (ag e) s)=(qs p k e s))))=false ->
 (kU p k e s)))
abbrev qF(p:aB)(k:Int)(e:J)(s:O):Prop:=(cX p<=1048576/\(((!(bT p p))=true ->
 false=true)/\((!(bT p p))=false ->
 (aw e<=1048576/\(((!(bT (ag e) e))=true ->
 false=true)/\((!(bT (ag e) e))=false ->
 (aK s<=1048576/\(((!(bT s s))=true ->
 false=true)/\((!(bT s s))=false ->
 ((0<=(1:Int)/\(1:Int)+(aj ak p.aq:Int)<=4611686018427387904)/\((0<=((1:Int)+(aj ak p.aq:Int))/\((1:Int)+(aj ak p.aq:Int))+(aj aJ (ag e).M:Int)<=4611686018427387904)/\((0<=(((1:Int)+(aj ak p.aq:Int))+(aj aJ (ag e).M:Int))/\(((1:Int)+(aj ak p.aq:Int))+(aj aJ (ag e).M:Int))+(s.path.length:Int)+(aj aJ s.ar:Int)+(aj aJ s.bo:Int)<=4611686018427387904)/\(((decide (((((1:Int)+(aj ak p.aq:Int))+(aj aJ (ag e).M:Int))+(s.path.length:Int)+(aj aJ s.ar:Int)+(aj aJ s.bo:Int))<(0:Int)))=false ->
 (((!(bT (ag (dB p k (ag e) s)) (ag (dB p k e s))))=false ->
 (qE p k e s))/\((!(bT (ag (dB p k (ag e) s)) (ag (dB p k e s))))=(!false) ->
 ((true=true ->
 false=true)/\(true=false ->
 (kU p k e s))))))/\((decide (((((1:Int)+(aj ak p.aq:Int))+(aj aJ (ag e).M:Int))+(s.path.length:Int)+(aj aJ s.ar:Int)+(aj aJ s.bo:Int))<(0:Int)))=(!false) ->
 ((true=false ->
 (qE p k e s))/\(true=(!false) ->
 ((true=true ->
 false=true)/\(true=false ->
 (kU p k e s)))))))))))))))))))
def Bc(p:aB)(k:Int)(e:J)(s:O):ck (cg [pr,kY,eF,pw,kZ,eG,kX,po,eE,nK,mn] [n0,jH,ef,la] [gu,gY,eo] [59,88,91,94,110,127,49,51,53] [] [] [4,6,7]) (az eB) (sB p k e s) 0 (bx (cg [pr,kY,eF,pw,kZ,eG,kX,po,eE,nK,mn] [n0,jH,ef,la] [gu,gY,eo] [59,88,91,94,110,127,49,51,53] [] [] [4,6,7]) eB λ r=>bB r [⟨.bool,true⟩]) (aL eB [.val ⟨(.st .proof),p⟩, .val ⟨(.int .i64),k⟩, .val ⟨(.st .expr),e⟩, .val ⟨(.st .proofStep),s⟩]) =
 (((0<=(1048576:Int)/\(1048576:Int)<=1048576)/\(U (bQ (cX p) (1048576:Int)) ->
 (((decide ((bQ (cX p) (1048576:Int))<(0:Int)))=true ->
 true=true)/\((decide ((bQ (cX p) (1048576:Int))<(0:Int)))=false ->
 ((0<=(bQ (cX p) (1048576:Int))/\(bQ (cX p) (1048576:Int))<=1048576)/\(U (bQ (aw e) (bQ (cX p) (1048576:Int))) ->
 (((decide ((bQ (aw e) (bQ (cX p) (1048576:Int)))<(0:Int)))=true ->
 true=true)/\((decide ((bQ (aw e) (bQ (cX p) (1048576:Int)))<(0:Int)))=false ->
 ((0<=(bQ (aw e) (bQ (cX p) (1048576:Int)))/\(bQ (aw e) (bQ (cX p) (1048576:Int)))<=1048576)/\(U (bQ (aK s) (bQ (aw e) (bQ (cX p) (1048576:Int)))) ->
 (((decide ((bQ (aK s) (bQ (aw e) (bQ (cX p) (1048576:Int))))<(0:Int)))=true ->
 true=true)/\((decide ((bQ (aK s) (bQ (aw e) (bQ (cX p) (1048576:Int))))<(0:Int)))=false ->
 (U k ->
 (p=p/\(k=k/\(e=e/\(s=s/\(cX p<=1048576/\(k=k/\(e=e/\(s=s/\(aw e<=1048576/\(k=k/\(s=s/\(aK s<=1048576/\(k=k/\(U (qs p k e s) ->
 (cX p<=1048576/\(aw e<=1048576/\(aK s<=1048576/\(U (qs p k (ag e) s) ->
 (((!(bT (ag (dB p k (ag e) s)) (ag (dB p k e s))))=false ->
 (((!(decide ((qs p k (ag e) s)=(qs p k e s))))=true ->
 false=true)/\((!(decide ((qs p k (ag e) s)=(qs p k e s))))=false ->
 (qF p k e s))))/\((!(bT (ag (dB p k (ag e) s)) (ag (dB p k e s))))=(!false) ->
 ((true=true ->
 false=true)/\(true=false ->
 (qF p k e s))))))))))))))))))))))))))))))))))))):=by kernel_rfl
def A9(hE:aI [pr,kY,eF,pw,kZ,eG,kX,po,eE,nK,mn])(hO:dL [n0,jH,ef,la])(hM:ed [gu,gY,eo])(hS:dP []):aQ.Good ss:=by
 refine⟨aA rK rfl (by decide),?_⟩;show ∀ (p:aB) (k:Int) (e:J) (s:O),True->bC prog iV [.val ⟨(.st .proof),p⟩, .val ⟨(.int .i64),k⟩, .val ⟨(.st .expr),e⟩, .val ⟨(.st .proofStep),s⟩] (·=[⟨.bool,true⟩]);intro p k e s _;refine Ss (own:=[59,88,91,94,110,127,49,51,53]) (wr:=[]) (cl:=[]) (ro:=[4,6,7]) hE hO hM hS rK yK (sB p k e s) ?_;rewrite [Bc p k e s];have f0:=eY (cX p) 1048576;have f1:=eY (aw e) (bQ (cX p) 1048576);have f2:=eY (aK s) (bQ (aw e) (bQ (cX p) 1048576));have f3:=WI p;have f4:=N8 e;have f5:=WJ s;have f6:=N8 (dB p k e s);have f7:=a6j p k e s;have f8:=a1x 1 (dB p k e s).M;have f9:=a3o 1 (dB p k e s);refine⟨?_,λ _=>⟨λ _=>rfl,λ _=>⟨?_,λ _=>⟨λ _=>rfl,λ _=>⟨?_,λ _=>⟨λ _=>rfl,λ _ _=>⟨rfl,rfl,rfl,rfl,?_,rfl,rfl,rfl,?_,rfl,rfl,?_,rfl,λ _=>⟨?_,?_,?_,λ _=>⟨λ _=>⟨λ _=>?_,λ _=>⟨?_,λ _=>?_,λ _=>⟨?_,λ _=>?_,λ _=>⟨?_,λ _=>?_,λ _=>⟨?_,?_,?_,λ _=>⟨λ _=>⟨λ _=>?_,λ _=>⟨?_,?_,λ _=>⟨λ _=>?_,λ _=>⟨λ _=>?_,λ _ _=>⟨rfl,rfl,rfl,rfl,?_,rfl,rfl,rfl,?_,rfl,rfl,?_,rfl,λ _=>⟨λ _=>⟨λ _=>?_,λ _=>⟨?_,λ _=>⟨λ _=>?_,λ _=>⟨λ _=>?_,λ _=>rfl⟩⟩⟩⟩,λ _=>⟨λ _=>?_,λ _=>⟨?_,λ _=>⟨λ _=>?_,λ _=>⟨λ _=>?_,λ _=>rfl⟩⟩⟩⟩⟩⟩⟩⟩⟩⟩,λ _=>⟨λ _=>?_,λ _=>⟨?_,?_,λ _=>⟨λ _=>?_,λ _=>⟨λ _=>?_,λ _ _=>⟨rfl,rfl,rfl,rfl,?_,rfl,rfl,rfl,?_,rfl,rfl,?_,rfl,λ _=>⟨λ _=>⟨λ _=>?_,λ _=>⟨?_,λ _=>⟨λ _=>?_,λ _=>⟨λ _=>?_,λ _=>rfl⟩⟩⟩⟩,λ _=>⟨λ _=>?_,λ _=>⟨?_,λ _=>⟨λ _=>?_,λ _=>⟨λ _=>?_,λ _=>rfl⟩⟩⟩⟩⟩⟩⟩⟩⟩⟩⟩,λ _=>⟨λ _=>⟨λ _=>?_,λ _=>⟨?_,?_,λ _=>⟨λ _=>?_,λ _=>⟨λ _=>?_,λ _ _=>⟨rfl,rfl,rfl,rfl,?_,rfl,rfl,rfl,?_,rfl,rfl,?_,rfl,λ _=>⟨λ _=>⟨λ _=>?_,λ _=>⟨?_,λ _=>⟨λ _=>?_,λ _=>⟨λ _=>?_,λ _=>rfl⟩⟩⟩⟩,λ _=>⟨λ _=>?_,λ _=>⟨?_,λ _=>⟨λ _=>?_,λ _=>⟨λ _=>?_,λ _=>rfl⟩⟩⟩⟩⟩⟩⟩⟩⟩⟩,λ _=>⟨λ _=>?_,λ _=>⟨?_,?_,λ _=>⟨λ _=>?_,λ _=>⟨λ _=>?_,λ _ _=>⟨rfl,rfl,rfl,rfl,?_,rfl,rfl,rfl,?_,rfl,rfl,?_,rfl,λ _=>⟨λ _=>⟨λ _=>?_,λ _=>⟨?_,λ _=>⟨λ _=>?_,λ _=>⟨λ _=>?_,λ _=>rfl⟩⟩⟩⟩,λ _=>⟨λ _=>?_,λ _=>⟨?_,λ _=>⟨λ _=>?_,λ _=>⟨λ _=>?_,λ _=>rfl⟩⟩⟩⟩⟩⟩⟩⟩⟩⟩⟩⟩⟩⟩⟩⟩,λ _=>⟨λ _=>?_,λ _=>⟨?_,λ _=>?_,λ _=>⟨?_,λ _=>?_,λ _=>⟨?_,λ _=>?_,λ _=>⟨?_,?_,?_,λ _=>⟨λ _=>⟨λ _=>?_,λ _=>⟨?_,?_,λ _=>⟨λ _=>?_,λ _=>⟨λ _=>?_,λ _ _=>⟨rfl,rfl,rfl,rfl,?_,rfl,rfl,rfl,?_,rfl,rfl,?_,rfl,λ _=>⟨λ _=>⟨λ _=>?_,λ _=>⟨?_,λ _=>⟨λ _=>?_,λ _=>⟨λ _=>?_,λ _=>rfl⟩⟩⟩⟩,λ _=>⟨λ _=>?_,λ _=>⟨?_,λ _=>⟨λ _=>?_,λ _=>⟨λ _=>?_,λ _=>rfl⟩⟩⟩⟩⟩⟩⟩⟩⟩⟩,λ _=>⟨λ _=>?_,λ _=>⟨?_,?_,λ _=>⟨λ _=>?_,λ _=>⟨λ _=>?_,λ _ _=>⟨rfl,rfl,rfl,rfl,?_,rfl,rfl,rfl,?_,rfl,rfl,?_,rfl,λ _=>⟨λ _=>⟨λ _=>?_,λ _=>⟨?_,λ _=>⟨λ _=>?_,λ _=>⟨λ _=>?_,λ _=>rfl⟩⟩⟩⟩,λ _=>⟨λ _=>?_,λ _=>⟨?_,λ _=>⟨λ _=>?_,λ _=>⟨λ _=>?_,λ _=>rfl⟩⟩⟩⟩⟩⟩⟩⟩⟩⟩⟩,λ _=>⟨λ _=>⟨λ _=>?_,λ _=>⟨?_,?_,λ _=>⟨λ _=>?_,λ _=>⟨λ _=>?_,λ _ _=>⟨rfl,rfl,rfl,rfl,?_,rfl,rfl,rfl,?_,rfl,rfl,?_,rfl,λ _=>⟨λ _=>⟨λ _=>?_,λ _=>⟨?_,λ _=>⟨λ _=>?_,λ _=>⟨λ _=>?_,λ _=>rfl⟩⟩⟩⟩,λ _=>⟨λ _=>?_,λ _=>⟨?_,λ _=>⟨λ _=>?_,λ _=>⟨λ _=>?_,λ _=>rfl⟩⟩⟩⟩⟩⟩⟩⟩⟩⟩,λ _=>⟨λ _=>?_,λ _=>⟨?_,?_,λ _=>⟨λ _=>?_,λ _=>⟨λ _=>?_,λ _ _=>⟨rfl,rfl,rfl,rfl,?_,rfl,rfl,rfl,?_,rfl,rfl,?_,rfl,λ _=>⟨λ _=>⟨λ _=>?_,λ _=>⟨?_,λ _=>⟨λ _=>?_,λ _=>⟨λ _=>?_,λ _=>rfl⟩⟩⟩⟩,λ _=>⟨λ _=>?_,λ _=>⟨?_,λ _=>⟨λ _=>?_,λ _=>⟨λ _=>?_,λ _=>rfl⟩⟩⟩⟩⟩⟩⟩⟩⟩⟩⟩⟩⟩⟩⟩⟩⟩⟩⟩⟩⟩⟩⟩⟩⟩;all_goals try and_intros
 all_goals try (first|with_reducible rfl|with_reducible assumption)
 all_goals try simp only[J.eta,ae.eta,aH.eta,aU,bM,ct] at *
 all_goals first|rfl|trivial|omega|(simp only[b0N,b0M,aC,U,cb,cM,ca,bF] at *;omega)|(simp[aC,U] at *;omega)|grind|(simp_all;done)|(simp_all;omega)
def yN:aQ.Good ss:=A9 ⟨L8,BE,uy,Mb,BF,uz,BD,L5,ux,J6,H5,af⟩ ⟨Kp,AF,ub,G6,af⟩ ⟨G5,IE,A6,af⟩ trivial
def GZ:∀ PN:List TV,PN.map TV.τ=[(.st .proof),(.int .i64),(.st .expr),(.st .proofStep)]->bC prog iV (PN.map .val) (·=[⟨.bool,true⟩]):=by
 intro PN h;match PN,h with
 | [⟨t0,a0⟩,⟨t1,a1⟩,⟨t2,a2⟩,⟨t3,a3⟩],h =>
  simp only[b1J,b2A,b0T,b1b] at h;obtain⟨rfl,rfl,rfl,rfl⟩:=h;exact yN.2 a0 a1 a2 a3 trivial
end
end Go.Proofs.YtmjfpcajohhbeaaGreatDoor

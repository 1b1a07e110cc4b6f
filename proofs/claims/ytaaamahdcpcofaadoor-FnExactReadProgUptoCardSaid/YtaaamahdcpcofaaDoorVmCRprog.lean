/- VmRProg2, VmRprog3, VmRprog4, VmCRprog. -/
import Derived.Test.YtaaamahdcpcofaaDoorVmRProg
set_option linter.all false
set_option maxRecDepth 4000
set_option maxHeartbeats 4000000
namespace Go.Proofs.YtaaamahdcpcofaaDoor
def a2Y:=@cond_false
noncomputable section
theorem dF{t s:List UInt8}{a:Int}(h0:0<=a)(h:aE t a.toNat s=true)(n:Int)(hn:(s.length:Int)=n)(h1:a<=(t.length:Int)):a+n<=(t.length:Int)/\O t a s=a+n:=by
 subst hn
 refine⟨?_,by unfold O;rw[h];rfl⟩
 rcases Hz t _ s h with g|g
 .omega
 .subst g;simpa using h1
theorem O2(c:Bool)(t:List UInt8)(a:Int)(s:List UInt8)(h0:0<=a)(h:a<=(t.length:Int)):0<=AR c t a s/\AR c t a s<=(t.length:Int):=by
 unfold AR
 cases c
 .exact⟨h0,h⟩
 .exact⟨kf t a s h0,kg t a s h0 h⟩
theorem Rg(t:List UInt8):∀ (d:Nat) (a:Int),0<=a->a<=(t.length:Int)->0<=(yR t d a).a/\(yR t d a).a<=(t.length:Int)
 | 0,a,h0,h1=>⟨h0,h1⟩
 | d+1,a,h0,h1=>by
  have P:=λ a x y=>Rg t d a x y
  have T:=λ (a:Int) (s:List UInt8) (x:0<=a) (y:a<=(t.length:Int))=>And.intro (kf t a s x) (kg t a s x y)
  rw[yR]
  split
  .rename_i e;have:=dF h0 e 4 rfl h1;exact⟨by show 0<=a+4;omega,this.1⟩
  .split
   .rename_i e;have:=dF h0 e 4 rfl h1;exact⟨by show 0<=a+4;omega,this.1⟩
   .split
    .rename_i e;have:=dF h0 e 7 rfl h1;exact⟨by show (0:Int)<=((xE t 40 (a+7)).a:Int);omega,CA t 40 (a+7) (by omega) this.1⟩
    .split
     .rename_i e;have:=dF h0 e 1 rfl h1;exact⟨CG t (a+1) (by omega),Ge t (a+1) (by omega) this.1⟩
     .split
      .rename_i e
       have q:=dF h0 e 1 rfl h1
       have x:=P (a+1) (by omega) q.1
       have y:=T _ [59,32] x.1 x.2
       have z:=P _ y.1 y.2
       exact O2 _ t _ _ z.1 z.2
      .split
       .rename_i e
        have q:=dF h0 e 3 rfl h1
        have c:=CA t 40 (a+3) (by omega) q.1
        have u:=T _ [32,116,104,101,110,32] (by omega) c
        have x:=P _ u.1 u.2
        have y:=T _ [32,101,108,115,101,32] x.1 x.2
        have z:=P _ y.1 y.2
        exact O2 _ t _ _ z.1 z.2
       .split
        .rename_i e
         have q:=dF h0 e 6 rfl h1
         have c:=CA t 40 (a+6) (by omega) q.1
         have u:=T _ [32,100,111,32] (by omega) c
         have x:=P _ u.1 u.2
         exact O2 _ t _ _ x.1 x.2
        .exact⟨h0,h1⟩
def PI(t:List UInt8)(d a:Int):RG:=yR t d.toNat a
theorem ZZ(t:List UInt8)(d a:Int)(h:d=0):PI t d a=⟨zQ,false,a⟩:=by subst h;rfl
theorem OF(t:List UInt8)(d a:Int)(h0:0<=a)(h1:a<=(t.length:Int)):0<=(PI t d a).a/\(PI t d a).a<=(t.length:Int):=Rg t d.toNat a h0 h1
theorem Bd(t:List UInt8)(d a:Int)(h:¬ d=0)(h':0<=d):PI t d a =
  if aE t a.toNat [115,107,105,112]=true then ⟨ai.mk 1 0 zX [],true,a+4⟩ else
  if aE t a.toNat [102,97,105,108]=true then ⟨ai.mk 2 0 zX [],true,a+4⟩ else
  if aE t a.toNat [97,115,115,101,114,116,32]=true then ⟨ai.mk 4 0 (xE t 40 (a+7)).e [],(xE t 40 (a+7)).ok,((xE t 40 (a+7)).a:Int)⟩ else
  if aE t a.toNat [97]=true then ⟨ai.mk 3 (uK t (a+1)) zX [],gv t (a+1).toNat,ub t (a+1)⟩ else
  if aE t a.toNat [123]=true then UB t (PI t (d - 1) (a+1)) (PI t (d - 1) (O t (PI t (d - 1) (a+1)).a [59,32])) else
  if aE t a.toNat [105,102,32]=true then Ub t (xE t 40 (a+3)) (PI t (d - 1) (O t ((xE t 40 (a+3)).a:Int) [32,116,104,101,110,32])) (PI t (d - 1) (O t (PI t (d - 1) (O t ((xE t 40 (a+3)).a:Int) [32,116,104,101,110,32])).a [32,101,108,115,101,32])) else
  if aE t a.toNat [119,104,105,108,101,32]=true then UG t (xE t 40 (a+6)) (PI t (d - 1) (O t ((xE t 40 (a+6)).a:Int) [32,100,111,32])) else ⟨zQ,false,a⟩:=by
 obtain⟨D,hD⟩:∃ D:Nat,d=(D:Int)+1:=⟨(d - 1).toNat,by omega⟩
 subst hD
 unfold PI
 rw[show ((D:Int)+1 - 1).toNat=D by omega,show ((D:Int)+1).toNat=D+1 by omega]
 rfl
structure NK(t:List UInt8)(a d:Int)(k:Nat):Prop where
 h0:0<=a
 h1:a<=(t.length:Int)
 hl:t.length<=10000
 d0:1<=d
 d1:d<=20
 no:∀ i,i<k->aE t a.toNat ([[115,107,105,112],[102,97,105,108],[97,115,115,101,114,116,32],[97],[123],[105,102,32],[119,104,105,108,101,32]].getD i [])=false
theorem NK.nx{t:List UInt8}{a d:Int}{k:Nat}(h:NK t a d k){w:List UInt8}(e:aE t a.toNat w=false)(hw:[[115,107,105,112],[102,97,105,108],[97,115,115,101,114,116,32],[97],[123],[105,102,32],[119,104,105,108,101,32]].getD k []=w):NK t a d (k+1) :=
 ⟨h.h0,h.h1,h.hl,h.d0,h.d1,λ i hi=>(a2B i k).elim (h.no i) λ g=>by
  have:i=k:=by omega
  subst this;rw[hw];exact e⟩
theorem PU(t:List UInt8)(a:Int)(w v:List UInt8)(h:aE t a.toNat w=false):aE t (O t a w).toNat v=aE t a.toNat v/\O t (O t a w) v=O t a v:=by
 rw[pW t a w h];exact⟨rfl,rfl⟩
theorem NK.nt{t:List UInt8}{a d:Int}{k:Nat}(h:NK t a d k)(i:Nat)(hi:i<k){w:List UInt8}(hw:[[115,107,105,112],[102,97,105,108],[97,115,115,101,114,116,32],[97],[123],[105,102,32],[119,104,105,108,101,32]].getD i []=w):¬ aE t a.toNat w=true:=by
 have:=h.no i hi
 rw[hw] at this
 rw[this];decide
theorem NK.dn{t:List UInt8}{a d:Int}{k:Nat}(h:NK t a d k):¬ d=0:=by have:=h.d0;omega
theorem NK.L{t:List UInt8}{a d:Int}{k:Nat}(h:NK t a d k):0<=d:=by have:=h.d0;omega
theorem NK.w0{t:List UInt8}{a d:Int}(h:NK t a d 0)(e:aE t a.toNat [115,107,105,112]=true):PI t d a=⟨ai.mk 1 0 zX [],true,O t a [115,107,105,112]⟩:=by
 rw[(dF h.h0 e 4 rfl h.h1).2,Bd t d a h.dn h.L,a1S e]
theorem NK.w1{t:List UInt8}{a d:Int}(h:NK t a d 1)(e:aE t a.toNat [102,97,105,108]=true):PI t d a=⟨ai.mk 2 0 zX [],true,O t a [102,97,105,108]⟩:=by
 rw[(dF h.h0 e 4 rfl h.h1).2,Bd t d a h.dn h.L,a1B (h.nt 0 (by decide) (w:=[115,107,105,112]) rfl),a1S e]
theorem NK.w2{t:List UInt8}{a d:Int}(h:NK t a d 2)(e:aE t a.toNat [97,115,115,101,114,116,32]=true):PI t d a=⟨ai.mk 4 0 (xE t 40 (O t a [97,115,115,101,114,116,32])).e [],(xE t 40 (O t a [97,115,115,101,114,116,32])).ok,((xE t 40 (O t a [97,115,115,101,114,116,32])).a:Int)⟩:=by
 rw[(dF h.h0 e 7 rfl h.h1).2,Bd t d a h.dn h.L,a1B (h.nt 0 (by decide) (w:=[115,107,105,112]) rfl),a1B (h.nt 1 (by decide) (w:=[102,97,105,108]) rfl),a1S e]
theorem NK.w3{t:List UInt8}{a d:Int}(h:NK t a d 3)(e:aE t a.toNat [97]=true):PI t d a=⟨ai.mk 3 (uK t (O t a [97])) zX [],gv t (O t a [97]).toNat,ub t (O t a [97])⟩:=by
 rw[(dF h.h0 e 1 rfl h.h1).2,Bd t d a h.dn h.L,a1B (h.nt 0 (by decide) (w:=[115,107,105,112]) rfl),a1B (h.nt 1 (by decide) (w:=[102,97,105,108]) rfl),a1B (h.nt 2 (by decide) (w:=[97,115,115,101,114,116,32]) rfl),a1S e]
theorem NK.w4{t:List UInt8}{a d:Int}(h:NK t a d 4)(e:aE t a.toNat [123]=true):PI t d a=UB t (PI t (d - 1) (a+1)) (PI t (d - 1) (O t (PI t (d - 1) (a+1)).a [59,32])):=by
 rw[Bd t d a h.dn h.L,a1B (h.nt 0 (by decide) (w:=[115,107,105,112]) rfl),a1B (h.nt 1 (by decide) (w:=[102,97,105,108]) rfl),a1B (h.nt 2 (by decide) (w:=[97,115,115,101,114,116,32]) rfl),a1B (h.nt 3 (by decide) (w:=[97]) rfl),a1S e]
theorem NK.w5{t:List UInt8}{a d:Int}(h:NK t a d 5)(e:aE t a.toNat [105,102,32]=true):PI t d a=Ub t (xE t 40 (a+3)) (PI t (d - 1) (O t ((xE t 40 (a+3)).a:Int) [32,116,104,101,110,32])) (PI t (d - 1) (O t (PI t (d - 1) (O t ((xE t 40 (a+3)).a:Int) [32,116,104,101,110,32])).a [32,101,108,115,101,32])):=by
 rw[Bd t d a h.dn h.L,a1B (h.nt 0 (by decide) (w:=[115,107,105,112]) rfl),a1B (h.nt 1 (by decide) (w:=[102,97,105,108]) rfl),a1B (h.nt 2 (by decide) (w:=[97,115,115,101,114,116,32]) rfl),a1B (h.nt 3 (by decide) (w:=[97]) rfl),a1B (h.nt 4 (by decide) (w:=[123]) rfl),a1S e]
theorem NK.w6{t:List UInt8}{a d:Int}(h:NK t a d 6)(e:aE t a.toNat [119,104,105,108,101,32]=true):PI t d a=UG t (xE t 40 (a+6)) (PI t (d - 1) (O t ((xE t 40 (a+6)).a:Int) [32,100,111,32])):=by
 rw[Bd t d a h.dn h.L,a1B (h.nt 0 (by decide) (w:=[115,107,105,112]) rfl),a1B (h.nt 1 (by decide) (w:=[102,97,105,108]) rfl),a1B (h.nt 2 (by decide) (w:=[97,115,115,101,114,116,32]) rfl),a1B (h.nt 3 (by decide) (w:=[97]) rfl),a1B (h.nt 4 (by decide) (w:=[123]) rfl),a1B (h.nt 5 (by decide) (w:=[105,102,32]) rfl),a1S e]
theorem NK.end{t:List UInt8}{a d:Int}(h:NK t a d 7):PI t d a=⟨zQ,false,a⟩:=by
 rw[Bd t d a h.dn h.L,a1B (h.nt 0 (by decide) (w:=[115,107,105,112]) rfl),a1B (h.nt 1 (by decide) (w:=[102,97,105,108]) rfl),a1B (h.nt 2 (by decide) (w:=[97,115,115,101,114,116,32]) rfl),a1B (h.nt 3 (by decide) (w:=[97]) rfl),a1B (h.nt 4 (by decide) (w:=[123]) rfl),a1B (h.nt 5 (by decide) (w:=[105,102,32]) rfl),a1B (h.nt 6 (by decide) (w:=[119,104,105,108,101,32]) rfl)]
theorem NK.nj{t:List UInt8}{a d:Int}{k:Nat}(h:NK t a d k)(w:List UInt8):0<=O t a w/\O t a w<=(t.length:Int):=⟨kf t a w h.h0,kg t a w h.h0 h.h1⟩
structure RX(t:List UInt8)(X:RG):Prop where
 x0:0<=X.a
 x1:X.a<=(t.length:Int)
theorem RX.nj{t:List UInt8}{X:RG}(h:RX t X)(w:List UInt8):0<=O t X.a w/\O t X.a w<=(t.length:Int):=⟨kf t _ w h.x0,kg t _ w h.x0 h.x1⟩
theorem RX.of{t:List UInt8}{d p:Int}(h0:0<=p)(h1:p<=(t.length:Int)):RX t (PI t d p):=⟨(OF t d p h0 h1).1,(OF t d p h0 h1).2⟩
structure OG(t:List UInt8)(a d:Int)(X:RG):Prop where
 nk:NK t a d 4
 rx:RX t X
 e:aE t a.toNat [123]=true
 x:X=PI t (d - 1) (a+1)
structure UR(t:List UInt8)(a d:Int)(X Y:RG):Prop where
 q:OG t a d X
 y:RX t Y
 p:PI t d a=UB t X Y
theorem NK.sq1{t:List UInt8}{a d:Int}(h:NK t a d 4)(e:aE t a.toNat [123]=true):OG t a d (PI t (d - 1) (O t a [123])):=⟨h,RX.of (h.nj _).1 (h.nj _).2,e,by rw[(dF h.h0 e 1 rfl h.h1).2]⟩
theorem OG.sq2{t:List UInt8}{a d:Int}{X:RG}(h:OG t a d X):UR t a d X (PI t (d - 1) (O t X.a [59,32])) :=
 ⟨h,RX.of (h.rx.nj _).1 (h.rx.nj _).2,by rw[h.x];exact h.nk.w4 h.e⟩
structure CX(t:List UInt8)(C:RI):Prop where
 c1:(C.a:Int)<=(t.length:Int)
theorem CX.nj{t:List UInt8}{C:RI}(h:CX t C)(w:List UInt8):0<=O t (C.a:Int) w/\O t (C.a:Int) w<=(t.length:Int):=⟨kf t _ w (by omega),kg t _ w (by omega) h.c1⟩
structure HO(t:List UInt8)(a d:Int)(C:RI):Prop where
 nk:NK t a d 5
 cx:CX t C
 e:aE t a.toNat [105,102,32]=true
 c:C=xE t 40 (a+3)
structure OE(t:List UInt8)(a d:Int)(C:RI)(X:RG):Prop where
 i:HO t a d C
 rx:RX t X
 x:X=PI t (d - 1) (O t (C.a:Int) [32,116,104,101,110,32])
structure UL(t:List UInt8)(a d:Int)(C:RI)(X Y:RG):Prop where
 i:OE t a d C X
 y:RX t Y
 p:PI t d a=Ub t C X Y
theorem NK.if1{t:List UInt8}{a d:Int}(h:NK t a d 5)(e:aE t a.toNat [105,102,32]=true):HO t a d (xE t 40 (O t a [105,102,32])):=⟨h,⟨CA t 40 _ (h.nj _).1 (h.nj _).2⟩,e,by rw[(dF h.h0 e 3 rfl h.h1).2]⟩
theorem HO.if2{t:List UInt8}{a d:Int}{C:RI}(h:HO t a d C):OE t a d C (PI t (d - 1) (O t (C.a:Int) [32,116,104,101,110,32])):=⟨h,RX.of (h.cx.nj _).1 (h.cx.nj _).2,rfl⟩
theorem OE.if3{t:List UInt8}{a d:Int}{C:RI}{X:RG}(h:OE t a d C X):UL t a d C X (PI t (d - 1) (O t X.a [32,101,108,115,101,32])) :=
 ⟨h,RX.of (h.rx.nj _).1 (h.rx.nj _).2,by rw[h.x,h.i.c];exact h.i.nk.w5 h.i.e⟩
structure HP(t:List UInt8)(a d:Int)(C:RI):Prop where
 nk:NK t a d 6
 cx:CX t C
 e:aE t a.toNat [119,104,105,108,101,32]=true
 c:C=xE t 40 (a+6)
structure UT(t:List UInt8)(a d:Int)(C:RI)(X:RG):Prop where
 i:HP t a d C
 y:RX t X
 p:PI t d a=UG t C X
theorem NK.wh1{t:List UInt8}{a d:Int}(h:NK t a d 6)(e:aE t a.toNat [119,104,105,108,101,32]=true):HP t a d (xE t 40 (O t a [119,104,105,108,101,32])):=⟨h,⟨CA t 40 _ (h.nj _).1 (h.nj _).2⟩,e,by rw[(dF h.h0 e 6 rfl h.h1).2]⟩
theorem HP.wh2{t:List UInt8}{a d:Int}{C:RI}(h:HP t a d C):UT t a d C (PI t (d - 1) (O t (C.a:Int) [32,100,111,32])) :=
 ⟨h,RX.of (h.cx.nj _).1 (h.cx.nj _).2,by rw[h.c];exact h.nk.w6 h.e⟩
theorem XZ(t:List UInt8)(C:RI)(w:List UInt8)(h:aE t (C.a:Int).toNat w=false):(aE t C.a w&&C.ok)=false:=by rw[a1E] at h;rw[h];rfl
theorem X0(t:List UInt8)(C:RI)(w:List UInt8)(h:aE t (C.a:Int).toNat w=true):C.ok=(aE t C.a w&&C.ok):=by rw[a1E] at h;rw[h];rfl
def gE(n:Nat):gj:=⟨kF,[[.d .str, .d (.int .i64)]],[.b 0, .v (.int .i64)],[[.str,(.int .i64)]],λ (d:Int) (t:List UInt8) (a:Int)=>⟨(some (d.toNat<n/\0<=a/\a<=(t.length:Int)/\t.length<=10000/\0<=d/\d<=20),[⟨(.st .prog),(PI t d a).p⟩,⟨.bool,(PI t d a).ok⟩],[[⟨.str,t⟩,⟨(.int .i64),(PI t d a).a⟩]])⟩⟩
def jZ:gj:=⟨kF,[[.d .str, .d (.int .i64)]],[.b 0, .v (.int .i64)],[[.str,(.int .i64)]],λ (d:Int) (t:List UInt8) (a:Int)=>⟨(some (0<=a/\a<=(t.length:Int)/\t.length<=10000/\0<=d/\d<=20),[⟨(.st .prog),(PI t d a).p⟩,⟨.bool,(PI t d a).ok⟩],[[⟨.str,t⟩,⟨(.int .i64),(PI t d a).a⟩]])⟩⟩
def te(d:Int)(t:List UInt8)(a:Int):Nat->aW:=(λ zb=>if Nat.beq zb 100030 then .mk (Unit) (λ u=>NK t a d 7) (λ u=>0) [] [0,1,2,3,6,7,8,9,10,11,12,13,14,15,16,17,18,19,20,21,22,23,24,25,26,27,28,29,30,31,32,33,34,35,36,37,38,39,40,41,42,43,44,45,46,47,48,49,50,51,52,53,54,55,56,57,58,59,60,61,62,63,64,65,66,67,68,69,70,71,72,73,74,75,76,77,78,79,80,81,82,83,84,85,86,87,88,89,90,91,92,93,94,95,96,97,98,99,100,101,102,103,104,105,106,107,108,109,110,111,112,113,114,115,116,117,118,119,120,121,122,123,124,125,126,127,128,129,130,131,132,133,134,135,136,137,138,139,140,141,142,143,144,145,146,147,148,149,150,151,152,153,154,155,156,157,158,159,160,161,162,163,164,165,166,167,168,169,170,171,172] (λ u=>[]) [4,5,173] (λ u=>[(400000, .box [.az ⟨.str,(t:List UInt8)⟩, .az ⟨(.int .i64),(a:Int)⟩])]) [] [] (λ u=>λ _ => .none) else if Nat.beq zb 100004 then .mk (Unit) (λ u=>NK t a d 0) (λ u=>0) [] [2,3,26,27,28,30,31] (λ u=>[(29, .az ⟨.bool,(aE t a.toNat [115,107,105,112]:Bool)⟩)]) [0,1,4,5,6,7,8,9,10,11,12,13,14,15,16,17,18,19,20,21,22,23,24,25,29,32,33,34,35,36,37,38,39,40,41,42,43,44,45,46,47,48,49,50,51,52,53,54,55,56,57,58,59,60,61,62,63,64,65,66,67,68,69,70,71,72,73,74,75,76,77,78,79,80,81,82,83,84,85,86,87,88,89,90,91,92,93,94,95,96,97,98,99,100,101,102,103,104,105,106,107,108,109,110,111,112,113,114,115,116,117,118,119,120,121,122,123,124,125,126,127,128,129,130,131,132,133,134,135,136,137,138,139,140,141,142,143,144,145,146,147,148,149,150,151,152,153,154,155,156,157,158,159,160,161,162,163,164,165,166,167,168,169,170,171,172,173] (λ u=>[(400000, .box [.az ⟨.str,(t:List UInt8)⟩, .az ⟨(.int .i64),(O t a [115,107,105,112]:Int)⟩])]) [] [] (λ u=>(λ zb=>if Nat.beq zb 100006 then .mk (Unit) (λ u=>NK t a d 1) (λ u=>0) [] [2,3,26,27,28,29,30,31,32,34,35] (λ u=>[(33, .az ⟨.bool,(aE t a.toNat [102,97,105,108]:Bool)⟩)]) [0,1,4,5,6,7,8,9,10,11,12,13,14,15,16,17,18,19,20,21,22,23,24,25,33,36,37,38,39,40,41,42,43,44,45,46,47,48,49,50,51,52,53,54,55,56,57,58,59,60,61,62,63,64,65,66,67,68,69,70,71,72,73,74,75,76,77,78,79,80,81,82,83,84,85,86,87,88,89,90,91,92,93,94,95,96,97,98,99,100,101,102,103,104,105,106,107,108,109,110,111,112,113,114,115,116,117,118,119,120,121,122,123,124,125,126,127,128,129,130,131,132,133,134,135,136,137,138,139,140,141,142,143,144,145,146,147,148,149,150,151,152,153,154,155,156,157,158,159,160,161,162,163,164,165,166,167,168,169,170,171,172,173] (λ u=>[(400000, .box [.az ⟨.str,(t:List UInt8)⟩, .az ⟨(.int .i64),(O t a [102,97,105,108]:Int)⟩])]) [] [] (λ u=>(λ zb=>if Nat.beq zb 100008 then .mk (Unit) (λ u=>NK t a d 2) (λ u=>0) [] [2,3,26,27,28,29,30,31,32,33,34,35,36,38,39] (λ u=>[(37, .az ⟨.bool,(aE t a.toNat [97,115,115,101,114,116,32]:Bool)⟩)]) [0,1,4,5,6,7,8,9,10,11,12,13,14,15,16,17,18,19,20,21,22,23,24,25,37,40,41,42,43,44,45,46,47,48,49,50,51,52,53,54,55,56,57,58,59,60,61,62,63,64,65,66,67,68,69,70,71,72,73,74,75,76,77,78,79,80,81,82,83,84,85,86,87,88,89,90,91,92,93,94,95,96,97,98,99,100,101,102,103,104,105,106,107,108,109,110,111,112,113,114,115,116,117,118,119,120,121,122,123,124,125,126,127,128,129,130,131,132,133,134,135,136,137,138,139,140,141,142,143,144,145,146,147,148,149,150,151,152,153,154,155,156,157,158,159,160,161,162,163,164,165,166,167,168,169,170,171,172,173] (λ u=>[(400000, .box [.az ⟨.str,(t:List UInt8)⟩, .az ⟨(.int .i64),(O t a [97,115,115,101,114,116,32]:Int)⟩])]) [] [] (λ u=>(λ zb=>if Nat.beq zb 100011 then .mk (Unit) (λ u=>NK t a d 3) (λ u=>0) [] [2,3,6,7,26,27,28,29,30,31,32,33,34,35,36,37,38,39,40,41,42,43,44,45,46,47,49,50] (λ u=>[(48, .az ⟨.bool,(aE t a.toNat [97]:Bool)⟩)]) [0,1,4,5,8,9,10,11,12,13,14,15,16,17,18,19,20,21,22,23,24,25,48,51,52,53,54,55,56,57,58,59,60,61,62,63,64,65,66,67,68,69,70,71,72,73,74,75,76,77,78,79,80,81,82,83,84,85,86,87,88,89,90,91,92,93,94,95,96,97,98,99,100,101,102,103,104,105,106,107,108,109,110,111,112,113,114,115,116,117,118,119,120,121,122,123,124,125,126,127,128,129,130,131,132,133,134,135,136,137,138,139,140,141,142,143,144,145,146,147,148,149,150,151,152,153,154,155,156,157,158,159,160,161,162,163,164,165,166,167,168,169,170,171,172,173] (λ u=>[(400000, .box [.az ⟨.str,(t:List UInt8)⟩, .az ⟨(.int .i64),(O t a [97]:Int)⟩])]) [] [] (λ u=>(λ zb=>if Nat.beq zb 100014 then .mk (Unit) (λ u=>NK t a d 4) (λ u=>0) [] [2,3,6,7,8,9,26,27,28,29,30,31,32,33,34,35,36,37,38,39,40,41,42,43,44,45,46,47,48,49,50,51,52,53,54,55,56,57,58,60,61] (λ u=>[(59, .az ⟨.bool,(aE t a.toNat [123]:Bool)⟩)]) [0,1,4,5,10,11,12,13,14,15,16,17,18,19,20,21,22,23,24,25,59,62,63,64,65,66,67,68,69,70,71,72,73,74,75,76,77,78,79,80,81,82,83,84,85,86,87,88,89,90,91,92,93,94,95,96,97,98,99,100,101,102,103,104,105,106,107,108,109,110,111,112,113,114,115,116,117,118,119,120,121,122,123,124,125,126,127,128,129,130,131,132,133,134,135,136,137,138,139,140,141,142,143,144,145,146,147,148,149,150,151,152,153,154,155,156,157,158,159,160,161,162,163,164,165,166,167,168,169,170,171,172,173] (λ u=>[(400000, .box [.az ⟨.str,(t:List UInt8)⟩, .az ⟨(.int .i64),(O t a [123]:Int)⟩])]) [] [] (λ u=>(λ zb=>if Nat.beq zb 100015 then .mk (RG) (λ X=>OG t a d X) (λ X=>0) [] [2,3,6,7,8,9,15,16,17,18,19,20,21,22,23,24,25,26,27,28,29,30,31,32,33,34,35,36,37,38,39,40,41,42,43,44,45,46,47,48,49,50,51,52,53,54,55,56,57,58,59,60,61,62,63,64,65,66,67,68,93,94,95,96,97,98,99,100,101,102,103,104,105,106,107,108,109,110,111,112,113,114,115,116,117,118,119,120,121,122,123,124,125,126,127,128,129,130,131,132,133,134,135,136,137,138,139,140,141,142,143,144,145,146,147,148,149,150,151,152,153,154,155,156,157,158,159,160,161,162,163,164,165,166,167,168,169,170,171,172] (λ X=>[(10, .ptr 10 0),(11, .az ⟨.bool,(X.ok:Bool)⟩)]) [0,1,4,5,11,12,13,14,69,70,71,72,73,74,75,76,77,78,79,80,81,82,83,84,85,86,87,88,89,90,91,92,173] (λ X=>[(400000, .box [.az ⟨.str,(t:List UInt8)⟩, .az ⟨(.int .i64),(X.a:Int)⟩]),(10, .box [.az ⟨(.int .i64),(X.p.af:Int)⟩, .az ⟨(.int .i64),(X.p.al:Int)⟩, .az ⟨(.int .i64),(X.p.cond.af:Int)⟩, .az ⟨(.int .i64),(X.p.cond.al:Int)⟩, .aq 7000, .aq 7050]),(7000, .aq (.st .expr) (X.p.cond.J:List M)),(7050, .aq (.st .prog) (X.p.J:List ai))]) [] [] (λ X=>(λ zb=>if Nat.beq zb 100017 then .mk (RG) (λ Y=>UR t a d X Y) (λ Y=>0) [] [1,2,3,6,7,8,9,15,16,17,18,19,20,21,22,23,24,25,26,27,28,29,30,31,32,33,34,35,36,37,38,39,40,41,42,43,44,45,46,47,48,49,50,51,52,53,54,55,56,57,58,59,60,61,62,63,64,65,66,67,68,69,70,71,72,73,74,75,76,77,93,94,95,96,97,98,99,100,101,102,103,104,105,106,107,108,109,110,111,112,113,114,115,116,117,118,119,120,121,122,123,124,125,126,127,128,129,130,131,132,133,134,135,136,137,138,139,140,141,142,143,144,145,146,147,148,149,150,151,152,153,154,155,156,157,158,159,160,161,162,163,164,165,166,167,168,169,170,171,172] (λ Y=>[(10, .ptr 10 0),(13, .ptr 13 0),(11, .az ⟨.bool,(X.ok:Bool)⟩),(12, .az ⟨.bool,(aE t X.a.toNat [59,32]:Bool)⟩),(14, .az ⟨.bool,(Y.ok:Bool)⟩)]) [0,4,5,11,12,14,78,79,80,81,82,83,84,85,86,87,88,89,90,91,92,173] (λ Y=>[(400000, .box [.az ⟨.str,(t:List UInt8)⟩, .az ⟨(.int .i64),(Y.a:Int)⟩]),(10, .box [.az ⟨(.int .i64),(X.p.af:Int)⟩, .az ⟨(.int .i64),(X.p.al:Int)⟩, .az ⟨(.int .i64),(X.p.cond.af:Int)⟩, .az ⟨(.int .i64),(X.p.cond.al:Int)⟩, .aq 7000, .aq 7050]),(7000, .aq (.st .expr) (X.p.cond.J:List M)),(7050, .aq (.st .prog) (X.p.J:List ai)),(13, .box [.az ⟨(.int .i64),(Y.p.af:Int)⟩, .az ⟨(.int .i64),(Y.p.al:Int)⟩, .az ⟨(.int .i64),(Y.p.cond.af:Int)⟩, .az ⟨(.int .i64),(Y.p.cond.al:Int)⟩, .aq 7100, .aq 7150]),(7100, .aq (.st .expr) (Y.p.cond.J:List M)),(7150, .aq (.st .prog) (Y.p.J:List ai))]) [] [] (λ Y=>λ _ => .none) else .none)) else if Nat.beq zb 100019 then .mk (Unit) (λ u=>NK t a d 5) (λ u=>0) [] [2,3,6,7,8,9,10,11,12,13,14,26,27,28,29,30,31,32,33,34,35,36,37,38,39,40,41,42,43,44,45,46,47,48,49,50,51,52,53,54,55,56,57,58,59,60,61,62,63,64,65,66,67,68,69,70,71,72,73,74,75,76,77,78,79,80,81,82,83,84,85,86,87,88,89,90,91,92,94,95] (λ u=>[(93, .az ⟨.bool,(aE t a.toNat [105,102,32]:Bool)⟩)]) [0,1,4,5,15,16,17,18,19,20,21,22,23,24,25,93,96,97,98,99,100,101,102,103,104,105,106,107,108,109,110,111,112,113,114,115,116,117,118,119,120,121,122,123,124,125,126,127,128,129,130,131,132,133,134,135,136,137,138,139,140,141,142,143,144,145,146,147,148,149,150,151,152,153,154,155,156,157,158,159,160,161,162,163,164,165,166,167,168,169,170,171,172,173] (λ u=>[(400000, .box [.az ⟨.str,(t:List UInt8)⟩, .az ⟨(.int .i64),(O t a [105,102,32]:Int)⟩])]) [] [] (λ u=>(λ zb=>if Nat.beq zb 100020 then .mk (RI) (λ C=>HO t a d C) (λ C=>0) [] [2,3,6,7,8,9,10,11,12,13,14,22,23,24,25,26,27,28,29,30,31,32,33,34,35,36,37,38,39,40,41,42,43,44,45,46,47,48,49,50,51,52,53,54,55,56,57,58,59,60,61,62,63,64,65,66,67,68,69,70,71,72,73,74,75,76,77,78,79,80,81,82,83,84,85,86,87,88,89,90,91,92,93,94,95,96,97,98,99,100,141,142,143,144,145,146,147,148,149,150,151,152,153,154,155,156,157,158,159,160,161,162,163,164,165,166,167,168,169,170,171,172] (λ C=>[(15, .ptr 15 0),(16, .az ⟨.bool,(C.ok:Bool)⟩)]) [0,1,4,5,16,17,18,19,20,21,101,102,103,104,105,106,107,108,109,110,111,112,113,114,115,116,117,118,119,120,121,122,123,124,125,126,127,128,129,130,131,132,133,134,135,136,137,138,139,140,173] (λ C=>[(400000, .box [.az ⟨.str,(t:List UInt8)⟩, .az ⟨(.int .i64),((C.a:Int):Int)⟩]),(15, .box [.az ⟨(.int .i64),(C.e.af:Int)⟩, .az ⟨(.int .i64),(C.e.al:Int)⟩, .aq 7200]),(7200, .aq (.st .expr) (C.e.J:List M))]) [] [] (λ C=>(λ zb=>if Nat.beq zb 100021 then .mk (Unit) (λ u=>HO t a d C) (λ u=>0) [] [2,3,6,7,8,9,10,11,12,13,14,22,23,24,25,26,27,28,29,30,31,32,33,34,35,36,37,38,39,40,41,42,43,44,45,46,47,48,49,50,51,52,53,54,55,56,57,58,59,60,61,62,63,64,65,66,67,68,69,70,71,72,73,74,75,76,77,78,79,80,81,82,83,84,85,86,87,88,89,90,91,92,93,94,95,96,97,98,99,100,101,102,103,104,105,141,142,143,144,145,146,147,148,149,150,151,152,153,154,155,156,157,158,159,160,161,162,163,164,165,166,167,168,169,170,171,172] (λ u=>[(15, .ptr 15 0),(16, .az ⟨.bool,((aE t C.a [32,116,104,101,110,32]&&C.ok):Bool)⟩)]) [0,1,4,5,16,17,18,19,20,21,106,107,108,109,110,111,112,113,114,115,116,117,118,119,120,121,122,123,124,125,126,127,128,129,130,131,132,133,134,135,136,137,138,139,140,173] (λ u=>[(400000, .box [.az ⟨.str,(t:List UInt8)⟩, .az ⟨(.int .i64),(O t (C.a:Int) [32,116,104,101,110,32]:Int)⟩]),(15, .box [.az ⟨(.int .i64),(C.e.af:Int)⟩, .az ⟨(.int .i64),(C.e.al:Int)⟩, .aq 7200]),(7200, .aq (.st .expr) (C.e.J:List M))]) [] [] (λ u=>(λ zb=>if Nat.beq zb 100022 then .mk (RG) (λ X=>OE t a d C X) (λ X=>0) [] [2,3,6,7,8,9,10,11,12,13,14,22,23,24,25,26,27,28,29,30,31,32,33,34,35,36,37,38,39,40,41,42,43,44,45,46,47,48,49,50,51,52,53,54,55,56,57,58,59,60,61,62,63,64,65,66,67,68,69,70,71,72,73,74,75,76,77,78,79,80,81,82,83,84,85,86,87,88,89,90,91,92,93,94,95,96,97,98,99,100,101,102,103,104,105,106,107,108,109,110,111,112,141,142,143,144,145,146,147,148,149,150,151,152,153,154,155,156,157,158,159,160,161,162,163,164,165,166,167,168,169,170,171,172] (λ X=>[(15, .ptr 15 0),(17, .ptr 17 0),(16, .az ⟨.bool,((aE t C.a [32,116,104,101,110,32]&&C.ok):Bool)⟩),(18, .az ⟨.bool,(X.ok:Bool)⟩)]) [0,1,4,5,16,18,19,20,21,113,114,115,116,117,118,119,120,121,122,123,124,125,126,127,128,129,130,131,132,133,134,135,136,137,138,139,140,173] (λ X=>[(400000, .box [.az ⟨.str,(t:List UInt8)⟩, .az ⟨(.int .i64),(X.a:Int)⟩]),(15, .box [.az ⟨(.int .i64),(C.e.af:Int)⟩, .az ⟨(.int .i64),(C.e.al:Int)⟩, .aq 7200]),(7200, .aq (.st .expr) (C.e.J:List M)),(17, .box [.az ⟨(.int .i64),(X.p.af:Int)⟩, .az ⟨(.int .i64),(X.p.al:Int)⟩, .az ⟨(.int .i64),(X.p.cond.af:Int)⟩, .az ⟨(.int .i64),(X.p.cond.al:Int)⟩, .aq 7300, .aq 7350]),(7300, .aq (.st .expr) (X.p.cond.J:List M)),(7350, .aq (.st .prog) (X.p.J:List ai))]) [] [] (λ X=>(λ zb=>if Nat.beq zb 100024 then .mk (RG) (λ Y=>UL t a d C X Y) (λ Y=>0) [] [1,2,3,6,7,8,9,10,11,12,13,14,22,23,24,25,26,27,28,29,30,31,32,33,34,35,36,37,38,39,40,41,42,43,44,45,46,47,48,49,50,51,52,53,54,55,56,57,58,59,60,61,62,63,64,65,66,67,68,69,70,71,72,73,74,75,76,77,78,79,80,81,82,83,84,85,86,87,88,89,90,91,92,93,94,95,96,97,98,99,100,101,102,103,104,105,106,107,108,109,110,111,112,113,114,115,116,117,118,119,120,121,141,142,143,144,145,146,147,148,149,150,151,152,153,154,155,156,157,158,159,160,161,162,163,164,165,166,167,168,169,170,171,172] (λ Y=>[(15, .ptr 15 0),(17, .ptr 17 0),(20, .ptr 20 0),(16, .az ⟨.bool,((aE t C.a [32,116,104,101,110,32]&&C.ok):Bool)⟩),(18, .az ⟨.bool,(X.ok:Bool)⟩),(19, .az ⟨.bool,(aE t X.a.toNat [32,101,108,115,101,32]:Bool)⟩),(21, .az ⟨.bool,(Y.ok:Bool)⟩)]) [0,4,5,16,18,19,21,122,123,124,125,126,127,128,129,130,131,132,133,134,135,136,137,138,139,140,173] (λ Y=>[(400000, .box [.az ⟨.str,(t:List UInt8)⟩, .az ⟨(.int .i64),(Y.a:Int)⟩]),(15, .box [.az ⟨(.int .i64),(C.e.af:Int)⟩, .az ⟨(.int .i64),(C.e.al:Int)⟩, .aq 7200]),(7200, .aq (.st .expr) (C.e.J:List M)),(17, .box [.az ⟨(.int .i64),(X.p.af:Int)⟩, .az ⟨(.int .i64),(X.p.al:Int)⟩, .az ⟨(.int .i64),(X.p.cond.af:Int)⟩, .az ⟨(.int .i64),(X.p.cond.al:Int)⟩, .aq 7300, .aq 7350]),(7300, .aq (.st .expr) (X.p.cond.J:List M)),(7350, .aq (.st .prog) (X.p.J:List ai)),(20, .box [.az ⟨(.int .i64),(Y.p.af:Int)⟩, .az ⟨(.int .i64),(Y.p.al:Int)⟩, .az ⟨(.int .i64),(Y.p.cond.af:Int)⟩, .az ⟨(.int .i64),(Y.p.cond.al:Int)⟩, .aq 7400, .aq 7450]),(7400, .aq (.st .expr) (Y.p.cond.J:List M)),(7450, .aq (.st .prog) (Y.p.J:List ai))]) [] [] (λ Y=>λ _ => .none) else .none)) else .none)) else .none)) else if Nat.beq zb 100026 then .mk (Unit) (λ u=>NK t a d 6) (λ u=>0) [] [2,3,6,7,8,9,10,11,12,13,14,15,16,17,18,19,20,21,26,27,28,29,30,31,32,33,34,35,36,37,38,39,40,41,42,43,44,45,46,47,48,49,50,51,52,53,54,55,56,57,58,59,60,61,62,63,64,65,66,67,68,69,70,71,72,73,74,75,76,77,78,79,80,81,82,83,84,85,86,87,88,89,90,91,92,93,94,95,96,97,98,99,100,101,102,103,104,105,106,107,108,109,110,111,112,113,114,115,116,117,118,119,120,121,122,123,124,125,126,127,128,129,130,131,132,133,134,135,136,137,138,139,140,142,143] (λ u=>[(141, .az ⟨.bool,(aE t a.toNat [119,104,105,108,101,32]:Bool)⟩)]) [0,1,4,5,22,23,24,25,141,144,145,146,147,148,149,150,151,152,153,154,155,156,157,158,159,160,161,162,163,164,165,166,167,168,169,170,171,172,173] (λ u=>[(400000, .box [.az ⟨.str,(t:List UInt8)⟩, .az ⟨(.int .i64),(O t a [119,104,105,108,101,32]:Int)⟩])]) [] [] (λ u=>(λ zb=>if Nat.beq zb 100027 then .mk (RI) (λ C=>HP t a d C) (λ C=>0) [] [2,3,6,7,8,9,10,11,12,13,14,15,16,17,18,19,20,21,26,27,28,29,30,31,32,33,34,35,36,37,38,39,40,41,42,43,44,45,46,47,48,49,50,51,52,53,54,55,56,57,58,59,60,61,62,63,64,65,66,67,68,69,70,71,72,73,74,75,76,77,78,79,80,81,82,83,84,85,86,87,88,89,90,91,92,93,94,95,96,97,98,99,100,101,102,103,104,105,106,107,108,109,110,111,112,113,114,115,116,117,118,119,120,121,122,123,124,125,126,127,128,129,130,131,132,133,134,135,136,137,138,139,140,141,142,143,144,145,146,147,148] (λ C=>[(22, .ptr 22 0),(23, .az ⟨.bool,(C.ok:Bool)⟩)]) [0,1,4,5,23,24,25,149,150,151,152,153,154,155,156,157,158,159,160,161,162,163,164,165,166,167,168,169,170,171,172,173] (λ C=>[(400000, .box [.az ⟨.str,(t:List UInt8)⟩, .az ⟨(.int .i64),((C.a:Int):Int)⟩]),(22, .box [.az ⟨(.int .i64),(C.e.af:Int)⟩, .az ⟨(.int .i64),(C.e.al:Int)⟩, .aq 7200]),(7200, .aq (.st .expr) (C.e.J:List M))]) [] [] (λ C=>(λ zb=>if Nat.beq zb 100028 then .mk (Unit) (λ u=>HP t a d C) (λ u=>0) [] [2,3,6,7,8,9,10,11,12,13,14,15,16,17,18,19,20,21,26,27,28,29,30,31,32,33,34,35,36,37,38,39,40,41,42,43,44,45,46,47,48,49,50,51,52,53,54,55,56,57,58,59,60,61,62,63,64,65,66,67,68,69,70,71,72,73,74,75,76,77,78,79,80,81,82,83,84,85,86,87,88,89,90,91,92,93,94,95,96,97,98,99,100,101,102,103,104,105,106,107,108,109,110,111,112,113,114,115,116,117,118,119,120,121,122,123,124,125,126,127,128,129,130,131,132,133,134,135,136,137,138,139,140,141,142,143,144,145,146,147,148,149,150,151,152,153] (λ u=>[(22, .ptr 22 0),(23, .az ⟨.bool,((aE t C.a [32,100,111,32]&&C.ok):Bool)⟩)]) [0,1,4,5,23,24,25,154,155,156,157,158,159,160,161,162,163,164,165,166,167,168,169,170,171,172,173] (λ u=>[(400000, .box [.az ⟨.str,(t:List UInt8)⟩, .az ⟨(.int .i64),(O t (C.a:Int) [32,100,111,32]:Int)⟩]),(22, .box [.az ⟨(.int .i64),(C.e.af:Int)⟩, .az ⟨(.int .i64),(C.e.al:Int)⟩, .aq 7200]),(7200, .aq (.st .expr) (C.e.J:List M))]) [] [] (λ u=>(λ zb=>if Nat.beq zb 100029 then .mk (RG) (λ X=>UT t a d C X) (λ X=>0) [] [1,2,3,6,7,8,9,10,11,12,13,14,15,16,17,18,19,20,21,26,27,28,29,30,31,32,33,34,35,36,37,38,39,40,41,42,43,44,45,46,47,48,49,50,51,52,53,54,55,56,57,58,59,60,61,62,63,64,65,66,67,68,69,70,71,72,73,74,75,76,77,78,79,80,81,82,83,84,85,86,87,88,89,90,91,92,93,94,95,96,97,98,99,100,101,102,103,104,105,106,107,108,109,110,111,112,113,114,115,116,117,118,119,120,121,122,123,124,125,126,127,128,129,130,131,132,133,134,135,136,137,138,139,140,141,142,143,144,145,146,147,148,149,150,151,152,153,154,155,156,157,158,159,160] (λ X=>[(22, .ptr 22 0),(24, .ptr 24 0),(23, .az ⟨.bool,((aE t C.a [32,100,111,32]&&C.ok):Bool)⟩),(25, .az ⟨.bool,(X.ok:Bool)⟩)]) [0,4,5,23,25,161,162,163,164,165,166,167,168,169,170,171,172,173] (λ X=>[(400000, .box [.az ⟨.str,(t:List UInt8)⟩, .az ⟨(.int .i64),(X.a:Int)⟩]),(22, .box [.az ⟨(.int .i64),(C.e.af:Int)⟩, .az ⟨(.int .i64),(C.e.al:Int)⟩, .aq 7200]),(7200, .aq (.st .expr) (C.e.J:List M)),(24, .box [.az ⟨(.int .i64),(X.p.af:Int)⟩, .az ⟨(.int .i64),(X.p.al:Int)⟩, .az ⟨(.int .i64),(X.p.cond.af:Int)⟩, .az ⟨(.int .i64),(X.p.cond.al:Int)⟩, .aq 7300, .aq 7350]),(7300, .aq (.st .expr) (X.p.cond.J:List M)),(7350, .aq (.st .prog) (X.p.J:List ai))]) [] [] (λ X=>λ _ => .none) else .none)) else .none)) else .none)) else .none)) else .none)) else .none)) else .none)) else .none)) else .none)) else .none)
abbrev ra(d:Int)(t:List UInt8)(a:Int):Prop:=((zP=((PI t d a).p)/\false=((PI t d a).ok))/\((t=t/\a=((PI t d a).a))/\True))
abbrev de(X6:RG):Prop:=(X6.p.af=X6.p.af/\(X6.p.al=X6.p.al/\(X6.p.cond.af=X6.p.cond.af/\(X6.p.cond.al=X6.p.cond.al/\((7000:Nat)=7000/\((7050:Nat)=7050/\True))))))
abbrev df(Y7:RG):Prop:=(Y7.p.af=Y7.p.af/\(Y7.p.al=Y7.p.al/\(Y7.p.cond.af=Y7.p.cond.af/\(Y7.p.cond.al=Y7.p.cond.al/\((7100:Nat)=7100/\((7150:Nat)=7150/\True))))))
abbrev cM(d:Int)(t:List UInt8)(a:Int)(X6:RG)(Y7:RG):Prop:=(((ai.mk (5:Int) (0:Int) zE ([(ai.mk X6.p.af X6.p.al (M.mk X6.p.cond.af X6.p.cond.al X6.p.cond.J) X6.p.J),(ai.mk Y7.p.af Y7.p.al (M.mk Y7.p.cond.af Y7.p.cond.al Y7.p.cond.J) Y7.p.J)]))=((PI t d a).p)/\(aE t Y7.a.toNat ([125]))=((PI t d a).ok))/\((t=t/\(O t Y7.a ([125]))=((PI t d a).a))/\True))
abbrev cg(d:Int)(t:List UInt8)(a:Int)(X6:RG)(Y7:RG):Prop:=(((ai.mk (5:Int) (0:Int) zE ([(ai.mk X6.p.af X6.p.al (M.mk X6.p.cond.af X6.p.cond.al X6.p.cond.J) X6.p.J),(ai.mk Y7.p.af Y7.p.al (M.mk Y7.p.cond.af Y7.p.cond.al Y7.p.cond.J) Y7.p.J)]))=((PI t d a).p)/\false=((PI t d a).ok))/\((t=t/\Y7.a=((PI t d a).a))/\True))
abbrev lX(d:Int)(t:List UInt8)(a:Int)(X6:RG)(Y7:RG):Prop:=((((cg d t a X6 Y7)/\((cg d t a X6 Y7)/\True))/\((cg d t a X6 Y7)/\True))/\True)
abbrev lY(d:Int)(t:List UInt8)(a:Int)(X6:RG)(Y7:RG):Prop:=(((de X6)/\((df Y7)/\((((cg d t a X6 Y7)/\((cg d t a X6 Y7)/\True))/\((cg d t a X6 Y7)/\True))/\(((de X6)/\((df Y7)/\(cg d t a X6 Y7)))/\True))))/\True)
abbrev rb(d:Int)(t:List UInt8)(a:Int)(X6:RG)(Y7:RG):Prop:=(false=false/\(false=false/\(True/\(false=false/\(false=false/\(True/\((cg d t a X6 Y7)/\((cg d t a X6 Y7)/\True))))))))
abbrev re(t:List UInt8)(a:Int)(C7:RI):Prop:=((t=t/\((O t (C7.a:Int) ([32,116,104,101,110,32]))=(O t (C7.a:Int) [32,116,104,101,110,32])/\True))/\((C7.e.af=C7.e.af/\(C7.e.al=C7.e.al/\(True/\True)))/\(C7.e.J=C7.e.J/\(((0:Int)=(0:Int)/\((0:Int)=(0:Int)/\((0:Int)=(0:Int)/\((0:Int)=(0:Int)/\(True/\(True/\True))))))/\True))))
abbrev cN(X9:RG):Prop:=(X9.p.af=X9.p.af/\(X9.p.al=X9.p.al/\(X9.p.cond.af=X9.p.cond.af/\(X9.p.cond.al=X9.p.cond.al/\((7300:Nat)=7300/\((7350:Nat)=7350/\True))))))
abbrev cD(dh:RG):Prop:=(dh.p.af=dh.p.af/\(dh.p.al=dh.p.al/\(dh.p.cond.af=dh.p.cond.af/\(dh.p.cond.al=dh.p.cond.al/\((7400:Nat)=7400/\((7450:Nat)=7450/\True))))))
abbrev dZ(d:Int)(t:List UInt8)(a:Int)(C7:RI)(X9:RG)(dh:RG):Prop:=(((ai.mk (6:Int) (0:Int) (M.mk C7.e.af C7.e.al C7.e.J) ([(ai.mk X9.p.af X9.p.al (M.mk X9.p.cond.af X9.p.cond.al X9.p.cond.J) X9.p.J),(ai.mk dh.p.af dh.p.al (M.mk dh.p.cond.af dh.p.cond.al dh.p.cond.J) dh.p.J)]))=((PI t d a).p)/\(aE t dh.a.toNat ([32,102,105]))=((PI t d a).ok))/\((t=t/\(O t dh.a ([32,102,105]))=((PI t d a).a))/\True))
abbrev qi(d:Int)(t:List UInt8)(a:Int)(C7:RI)(X9:RG)(dh:RG):Prop:=((C7.e.af=C7.e.af/\(C7.e.al=C7.e.al/\((7200:Nat)=7200/\True)))/\(((dZ d t a C7 X9 dh)/\((dZ d t a C7 X9 dh)/\True))/\(((C7.e.af=C7.e.af/\(C7.e.al=C7.e.al/\((7200:Nat)=7200/\True)))/\(dZ d t a C7 X9 dh))/\True)))
abbrev cU(d:Int)(t:List UInt8)(a:Int)(C7:RI)(X9:RG)(dh:RG):Prop:=(((ai.mk (6:Int) (0:Int) (M.mk C7.e.af C7.e.al C7.e.J) ([(ai.mk X9.p.af X9.p.al (M.mk X9.p.cond.af X9.p.cond.al X9.p.cond.J) X9.p.J),(ai.mk dh.p.af dh.p.al (M.mk dh.p.cond.af dh.p.cond.al dh.p.cond.J) dh.p.J)]))=((PI t d a).p)/\false=((PI t d a).ok))/\((t=t/\dh.a=((PI t d a).a))/\True))
abbrev fD(d:Int)(t:List UInt8)(a:Int)(C7:RI)(X9:RG)(dh:RG):Prop:=((C7.e.af=C7.e.af/\(C7.e.al=C7.e.al/\((7200:Nat)=7200/\True)))/\(((cU d t a C7 X9 dh)/\((cU d t a C7 X9 dh)/\True))/\(((C7.e.af=C7.e.af/\(C7.e.al=C7.e.al/\((7200:Nat)=7200/\True)))/\(cU d t a C7 X9 dh))/\True)))
abbrev hH(d:Int)(t:List UInt8)(a:Int)(C7:RI)(X9:RG)(dh:RG):Prop:=(((C7.e.af=C7.e.af/\(C7.e.al=C7.e.al/\((7200:Nat)=7200/\True)))/\((cN X9)/\((cD dh)/\((fD d t a C7 X9 dh)/\(((C7.e.af=C7.e.af/\(C7.e.al=C7.e.al/\((7200:Nat)=7200/\True)))/\((cN X9)/\((cD dh)/\((C7.e.af=C7.e.af/\(C7.e.al=C7.e.al/\((7200:Nat)=7200/\True)))/\(cU d t a C7 X9 dh)))))/\True)))))/\True)
abbrev k9(d:Int)(t:List UInt8)(a:Int)(C7:RI)(X9:RG)(dh:RG):Prop:=(false=false/\(false=false/\(True/\(false=false/\(false=false/\(True/\((cU d t a C7 X9 dh)/\((cU d t a C7 X9 dh)/\True))))))))
abbrev qj(t:List UInt8)(a:Int)(C8:RI):Prop:=((t=t/\((O t (C8.a:Int) ([32,100,111,32]))=(O t (C8.a:Int) [32,100,111,32])/\True))/\((C8.e.af=C8.e.af/\(C8.e.al=C8.e.al/\(True/\True)))/\(C8.e.J=C8.e.J/\(((0:Int)=(0:Int)/\((0:Int)=(0:Int)/\((0:Int)=(0:Int)/\((0:Int)=(0:Int)/\(True/\(True/\True))))))/\True))))
abbrev dy(dG:RG):Prop:=(dG.p.af=dG.p.af/\(dG.p.al=dG.p.al/\(dG.p.cond.af=dG.p.cond.af/\(dG.p.cond.al=dG.p.cond.al/\((7300:Nat)=7300/\((7350:Nat)=7350/\True))))))
abbrev ec(d:Int)(t:List UInt8)(a:Int)(C8:RI)(dG:RG):Prop:=(((ai.mk (7:Int) (0:Int) (M.mk C8.e.af C8.e.al C8.e.J) ([(ai.mk dG.p.af dG.p.al (M.mk dG.p.cond.af dG.p.cond.al dG.p.cond.J) dG.p.J)]))=((PI t d a).p)/\(aE t dG.a.toNat ([32,111,100]))=((PI t d a).ok))/\((t=t/\(O t dG.a ([32,111,100]))=((PI t d a).a))/\True))
abbrev qk(d:Int)(t:List UInt8)(a:Int)(C8:RI)(dG:RG):Prop:=((C8.e.af=C8.e.af/\(C8.e.al=C8.e.al/\((7200:Nat)=7200/\True)))/\(((ec d t a C8 dG)/\((ec d t a C8 dG)/\True))/\(((C8.e.af=C8.e.af/\(C8.e.al=C8.e.al/\((7200:Nat)=7200/\True)))/\(ec d t a C8 dG))/\True)))
abbrev cV(d:Int)(t:List UInt8)(a:Int)(C8:RI)(dG:RG):Prop:=(((ai.mk (7:Int) (0:Int) (M.mk C8.e.af C8.e.al C8.e.J) ([(ai.mk dG.p.af dG.p.al (M.mk dG.p.cond.af dG.p.cond.al dG.p.cond.J) dG.p.J)]))=((PI t d a).p)/\false=((PI t d a).ok))/\((t=t/\dG.a=((PI t d a).a))/\True))
abbrev la(d:Int)(t:List UInt8)(a:Int)(C8:RI)(dG:RG):Prop:=((C8.e.af=C8.e.af/\(C8.e.al=C8.e.al/\((7200:Nat)=7200/\True)))/\(((cV d t a C8 dG)/\((cV d t a C8 dG)/\True))/\(((C8.e.af=C8.e.af/\(C8.e.al=C8.e.al/\((7200:Nat)=7200/\True)))/\(cV d t a C8 dG))/\True)))
abbrev ql(d:Int)(t:List UInt8)(a:Int)(C8:RI)(dG:RG):Prop:=(((C8.e.af=C8.e.af/\(C8.e.al=C8.e.al/\((7200:Nat)=7200/\True)))/\((dy dG)/\((la d t a C8 dG)/\(((C8.e.af=C8.e.af/\(C8.e.al=C8.e.al/\((7200:Nat)=7200/\True)))/\((dy dG)/\((C8.e.af=C8.e.af/\(C8.e.al=C8.e.al/\((7200:Nat)=7200/\True)))/\(cV d t a C8 dG))))/\True))))/\True)
theorem Ba(n:Nat)(d:Int)(t:List UInt8)(a:Int):dd (dr [] [] [] [31,35,39,42,50,61,66,70,75,80,91,95,98,102,110,114,119,125,139,143,146,150,158,163,171] [] [] [] [cB,jY,dt,gE n]) (aD gb) (te d t a) 0 (ij (dr [] [] [] [31,35,39,42,50,61,66,70,75,80,91,95,98,102,110,114,119,125,139,143,146,150,158,163,171] [] [] [] [cB,jY,dt,gE n]) gb [[.d .str, .d (.int .i64)]] λ r ds=>bR r [⟨(.st .prog),(PI t d a).p⟩,⟨.bool,(PI t d a).ok⟩]/\jl ds [[⟨.str,t⟩,⟨(.int .i64),(PI t d a).a⟩]]) (cv gb [.box 0, .val ⟨(.int .i64),d⟩] [[.d .str, .d (.int .i64)]] [[⟨.str,t⟩,⟨(.int .i64),a⟩]]) =
 ((((decide (d=(0:Int)))=true ->
 (ra d t a))/\((decide (d=(0:Int)))=false ->
 ((((0<=a/\a<=(t.length:Int)/\t.length<=10000/\([115,107,105,112]).length<=10/\1<=([115,107,105,112]).length)/\(∃ u1:Unit,(NK t a d 0/\((True/\(d=d/\(True/\(false=false/\((aE t a.toNat ([115,107,105,112]))=(aE t a.toNat [115,107,105,112])/\True)))))/\((t=t/\((O t a ([115,107,105,112]))=(O t a [115,107,105,112])/\True))/\(((0:Int)=(0:Int)/\((0:Int)=(0:Int)/\((0:Int)=(0:Int)/\((0:Int)=(0:Int)/\(True/\(True/\True))))))/\True))))))/\(∀ u1:Unit,(NK t a d 0 ->
 (((aE t a.toNat [115,107,105,112])=true ->
 (((ai.mk (1:Int) (0:Int) zE [])=((PI t d a).p)/\true=((PI t d a).ok))/\((t=t/\(O t a [115,107,105,112])=((PI t d a).a))/\True)))/\((aE t a.toNat [115,107,105,112])=false ->
 (((0<=(O t a [115,107,105,112])/\(O t a [115,107,105,112])<=(t.length:Int)/\t.length<=10000/\([102,97,105,108]).length<=10/\1<=([102,97,105,108]).length)/\(∃ u2:Unit,(NK t a d 1/\((True/\(d=d/\(True/\(false=false/\((aE t (O t a [115,107,105,112]).toNat ([102,97,105,108]))=(aE t a.toNat [102,97,105,108])/\True)))))/\((t=t/\((O t (O t a [115,107,105,112]) ([102,97,105,108]))=(O t a [102,97,105,108])/\True))/\(((0:Int)=(0:Int)/\((0:Int)=(0:Int)/\((0:Int)=(0:Int)/\((0:Int)=(0:Int)/\(True/\(True/\True))))))/\True))))))/\(∀ u2:Unit,(NK t a d 1 ->
 (((aE t a.toNat [102,97,105,108])=true ->
 (((ai.mk (2:Int) (0:Int) zE [])=((PI t d a).p)/\true=((PI t d a).ok))/\((t=t/\(O t a [102,97,105,108])=((PI t d a).a))/\True)))/\((aE t a.toNat [102,97,105,108])=false ->
 (((0<=(O t a [102,97,105,108])/\(O t a [102,97,105,108])<=(t.length:Int)/\t.length<=10000/\([97,115,115,101,114,116,32]).length<=10/\1<=([97,115,115,101,114,116,32]).length)/\(∃ u3:Unit,(NK t a d 2/\((True/\(d=d/\(True/\(false=false/\((aE t (O t a [102,97,105,108]).toNat ([97,115,115,101,114,116,32]))=(aE t a.toNat [97,115,115,101,114,116,32])/\True)))))/\((t=t/\((O t (O t a [102,97,105,108]) ([97,115,115,101,114,116,32]))=(O t a [97,115,115,101,114,116,32])/\True))/\(((0:Int)=(0:Int)/\((0:Int)=(0:Int)/\((0:Int)=(0:Int)/\((0:Int)=(0:Int)/\(True/\(True/\True))))))/\True))))))/\(∀ u3:Unit,(NK t a d 2 ->
 (((aE t a.toNat [97,115,115,101,114,116,32])=true ->
 ((0<=(O t a [97,115,115,101,114,116,32])/\(O t a [97,115,115,101,114,116,32])<=(t.length:Int)/\t.length<=10000 /\ -1<=(40:Int)/\(40:Int)<=40)/\(((ai.mk (4:Int) (0:Int) (bH ((xE t (40:Int) (O t a [97,115,115,101,114,116,32])).e)) [])=((PI t d a).p)/\((xE t (40:Int) (O t a [97,115,115,101,114,116,32])).ok)=((PI t d a).ok))/\((t=t/\(((xE t (40:Int) (O t a [97,115,115,101,114,116,32])).a:Int))=((PI t d a).a))/\True))))/\((aE t a.toNat [97,115,115,101,114,116,32])=false ->
 (((0<=(O t a [97,115,115,101,114,116,32])/\(O t a [97,115,115,101,114,116,32])<=(t.length:Int)/\t.length<=10000/\([97]).length<=10/\1<=([97]).length)/\(∃ u4:Unit,(NK t a d 3/\((True/\(d=d/\(True/\(false=false/\((aE t (O t a [97,115,115,101,114,116,32]).toNat ([97]))=(aE t a.toNat [97])/\True)))))/\((t=t/\((O t (O t a [97,115,115,101,114,116,32]) ([97]))=(O t a [97])/\True))/\(((0:Int)=(0:Int)/\((0:Int)=(0:Int)/\((0:Int)=(0:Int)/\((0:Int)=(0:Int)/\(True/\(True/\True))))))/\True))))))/\(∀ u4:Unit,(NK t a d 3 ->
 (((aE t a.toNat [97])=true ->
 ((0<=(O t a [97])/\(O t a [97])<=(t.length:Int)/\t.length<=10000)/\(ah (uK t (O t a [97])) ->
 (((ai.mk (3:Int) (uK t (O t a [97])) zE [])=((PI t d a).p)/\(gv t (O t a [97]).toNat)=((PI t d a).ok))/\((t=t/\(ub t (O t a [97]))=((PI t d a).a))/\True)))))/\((aE t a.toNat [97])=false ->
 (((0<=(O t a [97])/\(O t a [97])<=(t.length:Int)/\t.length<=10000/\([123]).length<=10/\1<=([123]).length)/\(∃ u5:Unit,(NK t a d 4/\((True/\(d=d/\(True/\(false=false/\((aE t (O t a [97]).toNat ([123]))=(aE t a.toNat [123])/\True)))))/\((t=t/\((O t (O t a [97]) ([123]))=(O t a [123])/\True))/\(((0:Int)=(0:Int)/\((0:Int)=(0:Int)/\((0:Int)=(0:Int)/\((0:Int)=(0:Int)/\(True/\(True/\True))))))/\True))))))/\(∀ u5:Unit,(NK t a d 4 ->
 (((aE t a.toNat [123])=true ->
 ((ah (d - (1:Int))/\(((d - (1:Int)).toNat<n/\0<=(O t a [123])/\(O t a [123])<=(t.length:Int)/\t.length<=10000/\0<=(d - (1:Int))/\(d - (1:Int))<=20)/\(∃ X6:RG,(OG t a d X6/\((True/\(d=d/\(True/\(false=false/\(True/\(((PI t (d - (1:Int)) (O t a [123])).ok)=X6.ok/\True))))))/\((t=t/\(((PI t (d - (1:Int)) (O t a [123])).a)=X6.a/\True))/\((((PI t (d - (1:Int)) (O t a [123])).p).af=X6.p.af/\(((PI t (d - (1:Int)) (O t a [123])).p).al=X6.p.al/\(((PI t (d - (1:Int)) (O t a [123])).p).cond.af=X6.p.cond.af/\(((PI t (d - (1:Int)) (O t a [123])).p).cond.al=X6.p.cond.al/\(True/\(True/\True))))))/\(((PI t (d - (1:Int)) (O t a [123])).p).cond.J=X6.p.cond.J/\(((PI t (d - (1:Int)) (O t a [123])).p).J=X6.p.J/\(((0:Int)=(0:Int)/\((0:Int)=(0:Int)/\((0:Int)=(0:Int)/\((0:Int)=(0:Int)/\(True/\(True/\True))))))/\True))))))))))/\(∀ X6:RG,(OG t a d X6 ->
 ((0<=X6.a/\X6.a<=(t.length:Int)/\t.length<=10000/\([59,32]).length<=10/\1<=([59,32]).length)/\((ah (d - (1:Int))/\(((d - (1:Int)).toNat<n/\0<=(O t X6.a ([59,32]))/\(O t X6.a ([59,32]))<=(t.length:Int)/\t.length<=10000/\0<=(d - (1:Int))/\(d - (1:Int))<=20)/\(∃ Y7:RG,(UR t a d X6 Y7/\((True/\(True/\(false=false/\(True/\(X6.ok=X6.ok/\((aE t X6.a.toNat ([59,32]))=(aE t X6.a.toNat [59,32])/\(True/\(((PI t (d - (1:Int)) (O t X6.a ([59,32]))).ok)=Y7.ok/\True))))))))/\((t=t/\(((PI t (d - (1:Int)) (O t X6.a ([59,32]))).a)=Y7.a/\True))/\((X6.p.af=X6.p.af/\(X6.p.al=X6.p.al/\(X6.p.cond.af=X6.p.cond.af/\(X6.p.cond.al=X6.p.cond.al/\(True/\(True/\True))))))/\(X6.p.cond.J=X6.p.cond.J/\(X6.p.J=X6.p.J/\((((PI t (d - (1:Int)) (O t X6.a ([59,32]))).p).af=Y7.p.af/\(((PI t (d - (1:Int)) (O t X6.a ([59,32]))).p).al=Y7.p.al/\(((PI t (d - (1:Int)) (O t X6.a ([59,32]))).p).cond.af=Y7.p.cond.af/\(((PI t (d - (1:Int)) (O t X6.a ([59,32]))).p).cond.al=Y7.p.cond.al/\(True/\(True/\True))))))/\(((PI t (d - (1:Int)) (O t X6.a ([59,32]))).p).cond.J=Y7.p.cond.J/\(((PI t (d - (1:Int)) (O t X6.a ([59,32]))).p).J=Y7.p.J/\(((0:Int)=(0:Int)/\((0:Int)=(0:Int)/\((0:Int)=(0:Int)/\((0:Int)=(0:Int)/\(True/\(True/\True))))))/\True)))))))))))))/\(∀ Y7:RG,(UR t a d X6 Y7 ->
 ((X6.ok=true ->
 (((aE t X6.a.toNat [59,32])=true ->
 ((Y7.ok=true ->
 ((de X6)/\((df Y7)/\(true=true/\(true=true/\(true=true/\(true=true/\(true=true/\(true=true/\(true=true/\(true=true/\(((400000:Nat)=400000/\(0:Nat)=0)/\((true=true/\(true=true/\(true=true/\(true=true/\(true=true/\(true=true/\(true=true/\(true=true/\(((400000:Nat)=400000/\(0:Nat)=0)/\((true=true/\(true=true/\(true=true/\(true=true/\(true=true/\(true=true/\(true=true/\(true=true/\(((400000:Nat)=400000/\(0:Nat)=0)/\((0<=Y7.a/\Y7.a<=(t.length:Int)/\t.length<=10000/\([125]).length<=10/\1<=([125]).length)/\((cM d t a X6 Y7)/\((cM d t a X6 Y7)/\True))))))))))))/\(((0<=Y7.a/\Y7.a<=(t.length:Int)/\t.length<=10000/\([125]).length<=10/\1<=([125]).length)/\(((cM d t a X6 Y7)/\((cM d t a X6 Y7)/\True))/\((cM d t a X6 Y7)/\True)))/\True)))))))))))/\(((0<=Y7.a/\Y7.a<=(t.length:Int)/\t.length<=10000/\([125]).length<=10/\1<=([125]).length)/\((de X6)/\((df Y7)/\((((cM d t a X6 Y7)/\((cM d t a X6 Y7)/\True))/\((cM d t a X6 Y7)/\True))/\(((de X6)/\((df Y7)/\(cM d t a X6 Y7)))/\True)))))/\True))))))))))))))/\(Y7.ok=false ->
 ((de X6)/\((df Y7)/\(true=true/\(true=true/\(true=true/\(true=true/\(true=true/\(false=false/\(false=false/\(false=false/\(True/\((true=true/\(true=true/\(true=true/\(true=true/\(true=true/\(false=false/\(false=false/\(false=false/\(True/\((true=true/\(true=true/\(true=true/\(true=true/\(true=true/\(false=false/\(false=false/\(false=false/\(True/\((cg d t a X6 Y7)/\((cg d t a X6 Y7)/\True)))))))))))/\(lX d t a X6 Y7)))))))))))/\(lY d t a X6 Y7))))))))))))))))/\((aE t X6.a.toNat [59,32])=false ->
 ((de X6)/\((df Y7)/\(true=true/\(true=true/\(false=false/\(false=false/\(false=false/\(True/\(false=false/\(false=false/\(True/\((true=true/\(true=true/\(false=false/\(false=false/\(false=false/\(True/\(false=false/\(false=false/\(True/\((true=true/\(true=true/\(false=false/\(rb d t a X6 Y7))))/\(lX d t a X6 Y7)))))))))))/\(lY d t a X6 Y7))))))))))))))))/\(X6.ok=false ->
 ((de X6)/\((df Y7)/\(false=false/\(false=false/\(True/\(false=false/\(false=false/\(True/\(false=false/\(false=false/\(True/\((false=false/\(false=false/\(True/\(false=false/\(false=false/\(True/\(false=false/\(false=false/\(True/\((false=false/\(false=false/\(True/\(rb d t a X6 Y7))))/\(lX d t a X6 Y7)))))))))))/\(lY d t a X6 Y7)))))))))))))))))))))))/\((aE t a.toNat [123])=false ->
 (((0<=(O t a [123])/\(O t a [123])<=(t.length:Int)/\t.length<=10000/\([105,102,32]).length<=10/\1<=([105,102,32]).length)/\(∃ u6:Unit,(NK t a d 5/\((True/\(d=d/\(True/\(false=false/\((aE t (O t a [123]).toNat ([105,102,32]))=(aE t a.toNat [105,102,32])/\True)))))/\((t=t/\((O t (O t a [123]) ([105,102,32]))=(O t a [105,102,32])/\True))/\(((0:Int)=(0:Int)/\((0:Int)=(0:Int)/\((0:Int)=(0:Int)/\((0:Int)=(0:Int)/\(True/\(True/\True))))))/\True))))))/\(∀ u6:Unit,(NK t a d 5 ->
 (((aE t a.toNat [105,102,32])=true ->
 (((0<=(O t a [105,102,32])/\(O t a [105,102,32])<=(t.length:Int)/\t.length<=10000 /\ -1<=(40:Int)/\(40:Int)<=40)/\(∃ C7:RI,(HO t a d C7/\((True/\(d=d/\(True/\(false=false/\(True/\(((xE t (40:Int) (O t a [105,102,32])).ok)=C7.ok/\True))))))/\((t=t/\((((xE t (40:Int) (O t a [105,102,32])).a:Int))=(C7.a:Int)/\True))/\((((xE t (40:Int) (O t a [105,102,32])).e).af=C7.e.af/\(((xE t (40:Int) (O t a [105,102,32])).e).al=C7.e.al/\(True/\True)))/\(((xE t (40:Int) (O t a [105,102,32])).e).J=C7.e.J/\(((0:Int)=(0:Int)/\((0:Int)=(0:Int)/\((0:Int)=(0:Int)/\((0:Int)=(0:Int)/\(True/\(True/\True))))))/\True))))))))/\(∀ C7:RI,(HO t a d C7 ->
 (((0<=(C7.a:Int)/\(C7.a:Int)<=(t.length:Int)/\t.length<=10000/\([32,116,104,101,110,32]).length<=10/\1<=([32,116,104,101,110,32]).length)/\(((aE t (C7.a:Int).toNat ([32,116,104,101,110,32]))=true ->
 (∃ u8:Unit,(HO t a d C7/\((True/\(d=d/\(True/\(false=false/\(True/\(C7.ok=(aE t C7.a [32,116,104,101,110,32]&&C7.ok)/\True))))))/\(re t a C7)))))/\((aE t (C7.a:Int).toNat ([32,116,104,101,110,32]))=(!true) ->
 (∃ u8:Unit,(HO t a d C7/\((True/\(d=d/\(True/\(false=false/\(True/\(false=(aE t C7.a [32,116,104,101,110,32]&&C7.ok)/\True))))))/\(re t a C7)))))))/\(∀ u8:Unit,(HO t a d C7 ->
 ((ah (d - (1:Int))/\(((d - (1:Int)).toNat<n/\0<=(O t (C7.a:Int) [32,116,104,101,110,32])/\(O t (C7.a:Int) [32,116,104,101,110,32])<=(t.length:Int)/\t.length<=10000/\0<=(d - (1:Int))/\(d - (1:Int))<=20)/\(∃ X9:RG,(OE t a d C7 X9/\((True/\(d=d/\(True/\(false=false/\(True/\((aE t C7.a [32,116,104,101,110,32]&&C7.ok)=(aE t C7.a [32,116,104,101,110,32]&&C7.ok)/\(True/\(((PI t (d - (1:Int)) (O t (C7.a:Int) [32,116,104,101,110,32])).ok)=X9.ok/\True))))))))/\((t=t/\(((PI t (d - (1:Int)) (O t (C7.a:Int) [32,116,104,101,110,32])).a)=X9.a/\True))/\((C7.e.af=C7.e.af/\(C7.e.al=C7.e.al/\(True/\True)))/\(C7.e.J=C7.e.J/\((((PI t (d - (1:Int)) (O t (C7.a:Int) [32,116,104,101,110,32])).p).af=X9.p.af/\(((PI t (d - (1:Int)) (O t (C7.a:Int) [32,116,104,101,110,32])).p).al=X9.p.al/\(((PI t (d - (1:Int)) (O t (C7.a:Int) [32,116,104,101,110,32])).p).cond.af=X9.p.cond.af/\(((PI t (d - (1:Int)) (O t (C7.a:Int) [32,116,104,101,110,32])).p).cond.al=X9.p.cond.al/\(True/\(True/\True))))))/\(((PI t (d - (1:Int)) (O t (C7.a:Int) [32,116,104,101,110,32])).p).cond.J=X9.p.cond.J/\(((PI t (d - (1:Int)) (O t (C7.a:Int) [32,116,104,101,110,32])).p).J=X9.p.J/\(((0:Int)=(0:Int)/\((0:Int)=(0:Int)/\((0:Int)=(0:Int)/\((0:Int)=(0:Int)/\(True/\(True/\True))))))/\True))))))))))))/\(∀ X9:RG,(OE t a d C7 X9 ->
 ((0<=X9.a/\X9.a<=(t.length:Int)/\t.length<=10000/\([32,101,108,115,101,32]).length<=10/\1<=([32,101,108,115,101,32]).length)/\((ah (d - (1:Int))/\(((d - (1:Int)).toNat<n/\0<=(O t X9.a ([32,101,108,115,101,32]))/\(O t X9.a ([32,101,108,115,101,32]))<=(t.length:Int)/\t.length<=10000/\0<=(d - (1:Int))/\(d - (1:Int))<=20)/\(∃ dh:RG,(UL t a d C7 X9 dh/\((True/\(True/\(false=false/\(True/\((aE t C7.a [32,116,104,101,110,32]&&C7.ok)=(aE t C7.a [32,116,104,101,110,32]&&C7.ok)/\(True/\(X9.ok=X9.ok/\((aE t X9.a.toNat ([32,101,108,115,101,32]))=(aE t X9.a.toNat [32,101,108,115,101,32])/\(True/\(((PI t (d - (1:Int)) (O t X9.a ([32,101,108,115,101,32]))).ok)=dh.ok/\True))))))))))/\((t=t/\(((PI t (d - (1:Int)) (O t X9.a ([32,101,108,115,101,32]))).a)=dh.a/\True))/\((C7.e.af=C7.e.af/\(C7.e.al=C7.e.al/\(True/\True)))/\(C7.e.J=C7.e.J/\((X9.p.af=X9.p.af/\(X9.p.al=X9.p.al/\(X9.p.cond.af=X9.p.cond.af/\(X9.p.cond.al=X9.p.cond.al/\(True/\(True/\True))))))/\(X9.p.cond.J=X9.p.cond.J/\(X9.p.J=X9.p.J/\((((PI t (d - (1:Int)) (O t X9.a ([32,101,108,115,101,32]))).p).af=dh.p.af/\(((PI t (d - (1:Int)) (O t X9.a ([32,101,108,115,101,32]))).p).al=dh.p.al/\(((PI t (d - (1:Int)) (O t X9.a ([32,101,108,115,101,32]))).p).cond.af=dh.p.cond.af/\(((PI t (d - (1:Int)) (O t X9.a ([32,101,108,115,101,32]))).p).cond.al=dh.p.cond.al/\(True/\(True/\True))))))/\(((PI t (d - (1:Int)) (O t X9.a ([32,101,108,115,101,32]))).p).cond.J=dh.p.cond.J/\(((PI t (d - (1:Int)) (O t X9.a ([32,101,108,115,101,32]))).p).J=dh.p.J/\(((0:Int)=(0:Int)/\((0:Int)=(0:Int)/\((0:Int)=(0:Int)/\((0:Int)=(0:Int)/\(True/\(True/\True))))))/\True)))))))))))))))/\(∀ dh:RG,(UL t a d C7 X9 dh ->
 (((aE t C7.a [32,116,104,101,110,32]&&C7.ok)=true ->
 ((X9.ok=true ->
 (((aE t X9.a.toNat [32,101,108,115,101,32])=true ->
 ((dh.ok=true ->
 ((C7.e.af=C7.e.af/\(C7.e.al=C7.e.al/\((7200:Nat)=7200/\True)))/\((cN X9)/\((cD dh)/\(true=true/\(true=true/\(true=true/\(true=true/\(true=true/\(true=true/\(true=true/\(true=true/\(true=true/\(true=true/\(true=true/\(((400000:Nat)=400000/\(0:Nat)=0)/\(((C7.e.af=C7.e.af/\(C7.e.al=C7.e.al/\((7200:Nat)=7200/\True)))/\(true=true/\(true=true/\(true=true/\(true=true/\(true=true/\(true=true/\(true=true/\(true=true/\(true=true/\(true=true/\(true=true/\(((400000:Nat)=400000/\(0:Nat)=0)/\((true=true/\(true=true/\(true=true/\(true=true/\(true=true/\(true=true/\(true=true/\(true=true/\(true=true/\(true=true/\(true=true/\(((400000:Nat)=400000/\(0:Nat)=0)/\((0<=dh.a/\dh.a<=(t.length:Int)/\t.length<=10000/\([32,102,105]).length<=10/\1<=([32,102,105]).length)/\((dZ d t a C7 X9 dh)/\((dZ d t a C7 X9 dh)/\True)))))))))))))))/\(((0<=dh.a/\dh.a<=(t.length:Int)/\t.length<=10000/\([32,102,105]).length<=10/\1<=([32,102,105]).length)/\(qi d t a C7 X9 dh))/\True)))))))))))))))/\(((0<=dh.a/\dh.a<=(t.length:Int)/\t.length<=10000/\([32,102,105]).length<=10/\1<=([32,102,105]).length)/\((C7.e.af=C7.e.af/\(C7.e.al=C7.e.al/\((7200:Nat)=7200/\True)))/\((cN X9)/\((cD dh)/\((qi d t a C7 X9 dh)/\(((C7.e.af=C7.e.af/\(C7.e.al=C7.e.al/\((7200:Nat)=7200/\True)))/\((cN X9)/\((cD dh)/\((C7.e.af=C7.e.af/\(C7.e.al=C7.e.al/\((7200:Nat)=7200/\True)))/\(dZ d t a C7 X9 dh)))))/\True))))))/\True))))))))))))))))))/\(dh.ok=false ->
 ((C7.e.af=C7.e.af/\(C7.e.al=C7.e.al/\((7200:Nat)=7200/\True)))/\((cN X9)/\((cD dh)/\(true=true/\(true=true/\(true=true/\(true=true/\(true=true/\(true=true/\(true=true/\(true=true/\(false=false/\(false=false/\(false=false/\(True/\(((C7.e.af=C7.e.af/\(C7.e.al=C7.e.al/\((7200:Nat)=7200/\True)))/\(true=true/\(true=true/\(true=true/\(true=true/\(true=true/\(true=true/\(true=true/\(true=true/\(false=false/\(false=false/\(false=false/\(True/\((true=true/\(true=true/\(true=true/\(true=true/\(true=true/\(true=true/\(true=true/\(true=true/\(false=false/\(false=false/\(false=false/\(True/\((cU d t a C7 X9 dh)/\((cU d t a C7 X9 dh)/\True))))))))))))))/\((fD d t a C7 X9 dh)/\True)))))))))))))))/\(hH d t a C7 X9 dh))))))))))))))))))))/\((aE t X9.a.toNat [32,101,108,115,101,32])=false ->
 ((C7.e.af=C7.e.af/\(C7.e.al=C7.e.al/\((7200:Nat)=7200/\True)))/\((cN X9)/\((cD dh)/\(true=true/\(true=true/\(true=true/\(true=true/\(true=true/\(false=false/\(false=false/\(false=false/\(True/\(false=false/\(false=false/\(True/\(((C7.e.af=C7.e.af/\(C7.e.al=C7.e.al/\((7200:Nat)=7200/\True)))/\(true=true/\(true=true/\(true=true/\(true=true/\(true=true/\(false=false/\(false=false/\(false=false/\(True/\(false=false/\(false=false/\(True/\((true=true/\(true=true/\(true=true/\(true=true/\(true=true/\(false=false/\(k9 d t a C7 X9 dh)))))))/\((fD d t a C7 X9 dh)/\True)))))))))))))))/\(hH d t a C7 X9 dh))))))))))))))))))))/\(X9.ok=false ->
 ((C7.e.af=C7.e.af/\(C7.e.al=C7.e.al/\((7200:Nat)=7200/\True)))/\((cN X9)/\((cD dh)/\(true=true/\(true=true/\(false=false/\(false=false/\(false=false/\(True/\(false=false/\(false=false/\(True/\(false=false/\(false=false/\(True/\(((C7.e.af=C7.e.af/\(C7.e.al=C7.e.al/\((7200:Nat)=7200/\True)))/\(true=true/\(true=true/\(false=false/\(false=false/\(false=false/\(True/\(false=false/\(false=false/\(True/\(false=false/\(false=false/\(True/\((true=true/\(true=true/\(false=false/\(false=false/\(false=false/\(True/\(k9 d t a C7 X9 dh)))))))/\((fD d t a C7 X9 dh)/\True)))))))))))))))/\(hH d t a C7 X9 dh))))))))))))))))))))/\((aE t C7.a [32,116,104,101,110,32]&&C7.ok)=false ->
 ((C7.e.af=C7.e.af/\(C7.e.al=C7.e.al/\((7200:Nat)=7200/\True)))/\((cN X9)/\((cD dh)/\(false=false/\(false=false/\(True/\(false=false/\(false=false/\(True/\(false=false/\(false=false/\(True/\(false=false/\(false=false/\(True/\(((C7.e.af=C7.e.af/\(C7.e.al=C7.e.al/\((7200:Nat)=7200/\True)))/\(false=false/\(false=false/\(True/\(false=false/\(false=false/\(True/\(false=false/\(false=false/\(True/\(false=false/\(false=false/\(True/\((false=false/\(false=false/\(True/\(false=false/\(false=false/\(True/\(k9 d t a C7 X9 dh)))))))/\((fD d t a C7 X9 dh)/\True)))))))))))))))/\(hH d t a C7 X9 dh)))))))))))))))))))))))))))))))))/\((aE t a.toNat [105,102,32])=false ->
 (((0<=(O t a [105,102,32])/\(O t a [105,102,32])<=(t.length:Int)/\t.length<=10000/\([119,104,105,108,101,32]).length<=10/\1<=([119,104,105,108,101,32]).length)/\(∃ u7:Unit,(NK t a d 6/\((True/\(d=d/\(True/\(false=false/\((aE t (O t a [105,102,32]).toNat ([119,104,105,108,101,32]))=(aE t a.toNat [119,104,105,108,101,32])/\True)))))/\((t=t/\((O t (O t a [105,102,32]) ([119,104,105,108,101,32]))=(O t a [119,104,105,108,101,32])/\True))/\(((0:Int)=(0:Int)/\((0:Int)=(0:Int)/\((0:Int)=(0:Int)/\((0:Int)=(0:Int)/\(True/\(True/\True))))))/\True))))))/\(∀ u7:Unit,(NK t a d 6 ->
 (((aE t a.toNat [119,104,105,108,101,32])=true ->
 (((0<=(O t a [119,104,105,108,101,32])/\(O t a [119,104,105,108,101,32])<=(t.length:Int)/\t.length<=10000 /\ -1<=(40:Int)/\(40:Int)<=40)/\(∃ C8:RI,(HP t a d C8/\((True/\(d=d/\(True/\(false=false/\(True/\(((xE t (40:Int) (O t a [119,104,105,108,101,32])).ok)=C8.ok/\True))))))/\((t=t/\((((xE t (40:Int) (O t a [119,104,105,108,101,32])).a:Int))=(C8.a:Int)/\True))/\((((xE t (40:Int) (O t a [119,104,105,108,101,32])).e).af=C8.e.af/\(((xE t (40:Int) (O t a [119,104,105,108,101,32])).e).al=C8.e.al/\(True/\True)))/\(((xE t (40:Int) (O t a [119,104,105,108,101,32])).e).J=C8.e.J/\(((0:Int)=(0:Int)/\((0:Int)=(0:Int)/\((0:Int)=(0:Int)/\((0:Int)=(0:Int)/\(True/\(True/\True))))))/\True))))))))/\(∀ C8:RI,(HP t a d C8 ->
 (((0<=(C8.a:Int)/\(C8.a:Int)<=(t.length:Int)/\t.length<=10000/\([32,100,111,32]).length<=10/\1<=([32,100,111,32]).length)/\(((aE t (C8.a:Int).toNat ([32,100,111,32]))=true ->
 (∃ u9:Unit,(HP t a d C8/\((True/\(d=d/\(True/\(false=false/\(True/\(C8.ok=(aE t C8.a [32,100,111,32]&&C8.ok)/\True))))))/\(qj t a C8)))))/\((aE t (C8.a:Int).toNat ([32,100,111,32]))=(!true) ->
 (∃ u9:Unit,(HP t a d C8/\((True/\(d=d/\(True/\(false=false/\(True/\(false=(aE t C8.a [32,100,111,32]&&C8.ok)/\True))))))/\(qj t a C8)))))))/\(∀ u9:Unit,(HP t a d C8 ->
 ((ah (d - (1:Int))/\(((d - (1:Int)).toNat<n/\0<=(O t (C8.a:Int) [32,100,111,32])/\(O t (C8.a:Int) [32,100,111,32])<=(t.length:Int)/\t.length<=10000/\0<=(d - (1:Int))/\(d - (1:Int))<=20)/\(∃ dG:RG,(UT t a d C8 dG/\((True/\(True/\(false=false/\(True/\((aE t C8.a [32,100,111,32]&&C8.ok)=(aE t C8.a [32,100,111,32]&&C8.ok)/\(True/\(((PI t (d - (1:Int)) (O t (C8.a:Int) [32,100,111,32])).ok)=dG.ok/\True)))))))/\((t=t/\(((PI t (d - (1:Int)) (O t (C8.a:Int) [32,100,111,32])).a)=dG.a/\True))/\((C8.e.af=C8.e.af/\(C8.e.al=C8.e.al/\(True/\True)))/\(C8.e.J=C8.e.J/\((((PI t (d - (1:Int)) (O t (C8.a:Int) [32,100,111,32])).p).af=dG.p.af/\(((PI t (d - (1:Int)) (O t (C8.a:Int) [32,100,111,32])).p).al=dG.p.al/\(((PI t (d - (1:Int)) (O t (C8.a:Int) [32,100,111,32])).p).cond.af=dG.p.cond.af/\(((PI t (d - (1:Int)) (O t (C8.a:Int) [32,100,111,32])).p).cond.al=dG.p.cond.al/\(True/\(True/\True))))))/\(((PI t (d - (1:Int)) (O t (C8.a:Int) [32,100,111,32])).p).cond.J=dG.p.cond.J/\(((PI t (d - (1:Int)) (O t (C8.a:Int) [32,100,111,32])).p).J=dG.p.J/\(((0:Int)=(0:Int)/\((0:Int)=(0:Int)/\((0:Int)=(0:Int)/\((0:Int)=(0:Int)/\(True/\(True/\True))))))/\True))))))))))))/\(∀ dG:RG,(UT t a d C8 dG ->
 (((aE t C8.a [32,100,111,32]&&C8.ok)=true ->
 ((dG.ok=true ->
 ((C8.e.af=C8.e.af/\(C8.e.al=C8.e.al/\((7200:Nat)=7200/\True)))/\((dy dG)/\(true=true/\(true=true/\(true=true/\(true=true/\(true=true/\(((400000:Nat)=400000/\(0:Nat)=0)/\(((C8.e.af=C8.e.af/\(C8.e.al=C8.e.al/\((7200:Nat)=7200/\True)))/\(true=true/\(true=true/\(true=true/\(true=true/\(true=true/\(((400000:Nat)=400000/\(0:Nat)=0)/\((true=true/\(true=true/\(true=true/\(true=true/\(true=true/\(((400000:Nat)=400000/\(0:Nat)=0)/\((0<=dG.a/\dG.a<=(t.length:Int)/\t.length<=10000/\([32,111,100]).length<=10/\1<=([32,111,100]).length)/\((ec d t a C8 dG)/\((ec d t a C8 dG)/\True)))))))))/\(((0<=dG.a/\dG.a<=(t.length:Int)/\t.length<=10000/\([32,111,100]).length<=10/\1<=([32,111,100]).length)/\(qk d t a C8 dG))/\True)))))))))/\(((0<=dG.a/\dG.a<=(t.length:Int)/\t.length<=10000/\([32,111,100]).length<=10/\1<=([32,111,100]).length)/\((C8.e.af=C8.e.af/\(C8.e.al=C8.e.al/\((7200:Nat)=7200/\True)))/\((dy dG)/\((qk d t a C8 dG)/\(((C8.e.af=C8.e.af/\(C8.e.al=C8.e.al/\((7200:Nat)=7200/\True)))/\((dy dG)/\((C8.e.af=C8.e.af/\(C8.e.al=C8.e.al/\((7200:Nat)=7200/\True)))/\(ec d t a C8 dG))))/\True)))))/\True)))))))))))/\(dG.ok=false ->
 ((C8.e.af=C8.e.af/\(C8.e.al=C8.e.al/\((7200:Nat)=7200/\True)))/\((dy dG)/\(true=true/\(true=true/\(false=false/\(false=false/\(false=false/\(True/\(((C8.e.af=C8.e.af/\(C8.e.al=C8.e.al/\((7200:Nat)=7200/\True)))/\(true=true/\(true=true/\(false=false/\(false=false/\(false=false/\(True/\((true=true/\(true=true/\(false=false/\(false=false/\(false=false/\(True/\((cV d t a C8 dG)/\((cV d t a C8 dG)/\True))))))))/\((la d t a C8 dG)/\True)))))))))/\(ql d t a C8 dG)))))))))))))/\((aE t C8.a [32,100,111,32]&&C8.ok)=false ->
 ((C8.e.af=C8.e.af/\(C8.e.al=C8.e.al/\((7200:Nat)=7200/\True)))/\((dy dG)/\(false=false/\(false=false/\(True/\(false=false/\(false=false/\(True/\(((C8.e.af=C8.e.af/\(C8.e.al=C8.e.al/\((7200:Nat)=7200/\True)))/\(false=false/\(false=false/\(True/\(false=false/\(false=false/\(True/\((false=false/\(false=false/\(True/\(false=false/\(false=false/\(True/\((cV d t a C8 dG)/\((cV d t a C8 dG)/\True))))))))/\((la d t a C8 dG)/\True)))))))))/\(ql d t a C8 dG))))))))))))))))))))))/\((aE t a.toNat [119,104,105,108,101,32])=false ->
 (∃ u8:Unit,(NK t a d 7/\((True/\True)/\((t=t/\((O t a [119,104,105,108,101,32])=a/\True))/\(((0:Int)=(0:Int)/\((0:Int)=(0:Int)/\((0:Int)=(0:Int)/\((0:Int)=(0:Int)/\(True/\(True/\True))))))/\True))))))))))))))))))))))))))))))))))))))))/\(∀ u1:Unit,(NK t a d 7 ->
 (ra d t a))))))):=by kernel_rfl
theorem A4(n:Nat)(hE:aR [])(hO:ja [])(hM:iu [])(hS:gO [cB,jY,dt,gE n]):gj.Good (gE (n+1)):=by
 refine⟨aB jL rfl (by decide),?_⟩
 show ∀ (d:Int) (t:List UInt8) (a:Int),(d.toNat<n+1/\0<=a/\a<=(t.length:Int)/\t.length<=10000/\0<=d/\d<=20)->o5 prog kF [[.d .str, .d (.int .i64)]] [.box 0, .val ⟨(.int .i64),d⟩] [[⟨.str,t⟩,⟨(.int .i64),a⟩]] [⟨(.st .prog),(PI t d a).p⟩,⟨.bool,(PI t d a).ok⟩] [[⟨.str,t⟩,⟨(.int .i64),(PI t d a).a⟩]]
 intro d t a hp
 refine fm (own:=[31,35,39,42,50,61,66,70,75,80,91,95,98,102,110,114,119,125,139,143,146,150,158,163,171]) (wr:=[]) (cl:=[]) (ro:=[]) hE hO hM hS jL zf (te d t a) rfl rfl ?_
 rewrite [Ba n d t a]
 obtain⟨hm,h0,h1,hl,d0,d1⟩:=hp
 have n0:¬ d=0->NK t a d 0:=λ h=>⟨h0,h1,hl,by omega,d1,λ i hi=>absurd hi (a2s _)⟩
 refine⟨λ a0=>⟨⟨?_,?_⟩,⟨⟨rfl,?_⟩,trivial⟩⟩,λ a0=>⟨⟨⟨?_,⟨(),⟨?_,⟨⟨trivial,⟨rfl,⟨trivial,⟨rfl,⟨?_,trivial⟩⟩⟩⟩⟩,⟨⟨rfl,⟨?_,trivial⟩⟩,⟨⟨rfl,⟨rfl,⟨rfl,⟨rfl,⟨trivial,⟨trivial,trivial⟩⟩⟩⟩⟩⟩,trivial⟩⟩⟩⟩⟩⟩,λ u1=>λ a1=>⟨λ a2=>⟨⟨?_,?_⟩,⟨⟨rfl,?_⟩,trivial⟩⟩,λ a2=>⟨⟨?_,⟨(),⟨?_,⟨⟨trivial,⟨rfl,⟨trivial,⟨rfl,⟨?_,trivial⟩⟩⟩⟩⟩,⟨⟨rfl,⟨?_,trivial⟩⟩,⟨⟨rfl,⟨rfl,⟨rfl,⟨rfl,⟨trivial,⟨trivial,trivial⟩⟩⟩⟩⟩⟩,trivial⟩⟩⟩⟩⟩⟩,λ u2=>λ a3=>⟨λ a4=>⟨⟨?_,?_⟩,⟨⟨rfl,?_⟩,trivial⟩⟩,λ a4=>⟨⟨?_,⟨(),⟨?_,⟨⟨trivial,⟨rfl,⟨trivial,⟨rfl,⟨?_,trivial⟩⟩⟩⟩⟩,⟨⟨rfl,⟨?_,trivial⟩⟩,⟨⟨rfl,⟨rfl,⟨rfl,⟨rfl,⟨trivial,⟨trivial,trivial⟩⟩⟩⟩⟩⟩,trivial⟩⟩⟩⟩⟩⟩,λ u3=>λ a5=>⟨λ a6=>⟨?_,⟨⟨?_,?_⟩,⟨⟨rfl,?_⟩,trivial⟩⟩⟩,λ a6=>⟨⟨?_,⟨(),⟨?_,⟨⟨trivial,⟨rfl,⟨trivial,⟨rfl,⟨?_,trivial⟩⟩⟩⟩⟩,⟨⟨rfl,⟨?_,trivial⟩⟩,⟨⟨rfl,⟨rfl,⟨rfl,⟨rfl,⟨trivial,⟨trivial,trivial⟩⟩⟩⟩⟩⟩,trivial⟩⟩⟩⟩⟩⟩,λ u4=>λ a7=>⟨λ a8=>⟨?_,λ a9=>⟨⟨?_,?_⟩,⟨⟨rfl,?_⟩,trivial⟩⟩⟩,λ a8=>⟨⟨?_,⟨(),⟨?_,⟨⟨trivial,⟨rfl,⟨trivial,⟨rfl,⟨?_,trivial⟩⟩⟩⟩⟩,⟨⟨rfl,⟨?_,trivial⟩⟩,⟨⟨rfl,⟨rfl,⟨rfl,⟨rfl,⟨trivial,⟨trivial,trivial⟩⟩⟩⟩⟩⟩,trivial⟩⟩⟩⟩⟩⟩,λ u5=>λ a9=>⟨λ gl=>⟨⟨?_,⟨?_,⟨(PI t (d - 1) (O t a [123])),⟨?_,⟨⟨trivial,⟨rfl,⟨trivial,⟨rfl,⟨trivial,⟨?_,trivial⟩⟩⟩⟩⟩⟩,⟨⟨rfl,⟨?_,trivial⟩⟩,⟨⟨?_,⟨?_,⟨?_,⟨?_,⟨trivial,⟨trivial,trivial⟩⟩⟩⟩⟩⟩,⟨?_,⟨?_,⟨⟨rfl,⟨rfl,⟨rfl,⟨rfl,⟨trivial,⟨trivial,trivial⟩⟩⟩⟩⟩⟩,trivial⟩⟩⟩⟩⟩⟩⟩⟩⟩⟩,λ X6=>λ jn=>⟨?_,⟨⟨?_,⟨?_,⟨(PI t (d - 1) (O t X6.a [59,32])),⟨?_,⟨⟨trivial,⟨trivial,⟨rfl,⟨trivial,⟨rfl,⟨?_,⟨trivial,⟨?_,trivial⟩⟩⟩⟩⟩⟩⟩⟩,⟨⟨rfl,⟨?_,trivial⟩⟩,⟨⟨rfl,⟨rfl,⟨rfl,⟨rfl,⟨trivial,⟨trivial,trivial⟩⟩⟩⟩⟩⟩,⟨rfl,⟨rfl,⟨⟨?_,⟨?_,⟨?_,⟨?_,⟨trivial,⟨trivial,trivial⟩⟩⟩⟩⟩⟩,⟨?_,⟨?_,⟨⟨rfl,⟨rfl,⟨rfl,⟨rfl,⟨trivial,⟨trivial,trivial⟩⟩⟩⟩⟩⟩,trivial⟩⟩⟩⟩⟩⟩⟩⟩⟩⟩⟩⟩⟩,λ Y7=>λ a12=>⟨λ vB=>⟨λ sN=>⟨λ KR=>⟨⟨rfl,⟨rfl,⟨rfl,⟨rfl,⟨?_,⟨?_,?_⟩⟩⟩⟩⟩⟩,⟨⟨rfl,⟨rfl,⟨rfl,⟨rfl,⟨?_,⟨?_,?_⟩⟩⟩⟩⟩⟩,⟨rfl,⟨rfl,⟨rfl,⟨rfl,⟨rfl,⟨rfl,⟨rfl,⟨rfl,⟨⟨?_,?_⟩,⟨⟨rfl,⟨rfl,⟨rfl,⟨rfl,⟨rfl,⟨rfl,⟨rfl,⟨rfl,⟨⟨?_,?_⟩,⟨⟨rfl,⟨rfl,⟨rfl,⟨rfl,⟨rfl,⟨rfl,⟨rfl,⟨rfl,⟨⟨?_,?_⟩,⟨?_,⟨⟨⟨?_,?_⟩,⟨⟨rfl,?_⟩,trivial⟩⟩,⟨⟨⟨?_,?_⟩,⟨⟨rfl,?_⟩,trivial⟩⟩,trivial⟩⟩⟩⟩⟩⟩⟩⟩⟩⟩⟩⟩,⟨⟨?_,⟨⟨⟨⟨?_,?_⟩,⟨⟨rfl,?_⟩,trivial⟩⟩,⟨⟨⟨?_,?_⟩,⟨⟨rfl,?_⟩,trivial⟩⟩,trivial⟩⟩,⟨⟨⟨?_,?_⟩,⟨⟨rfl,?_⟩,trivial⟩⟩,trivial⟩⟩⟩,trivial⟩⟩⟩⟩⟩⟩⟩⟩⟩⟩⟩,⟨⟨?_,⟨⟨rfl,⟨rfl,⟨rfl,⟨rfl,⟨?_,⟨?_,?_⟩⟩⟩⟩⟩⟩,⟨⟨rfl,⟨rfl,⟨rfl,⟨rfl,⟨?_,⟨?_,?_⟩⟩⟩⟩⟩⟩,⟨⟨⟨⟨⟨?_,?_⟩,⟨⟨rfl,?_⟩,trivial⟩⟩,⟨⟨⟨?_,?_⟩,⟨⟨rfl,?_⟩,trivial⟩⟩,trivial⟩⟩,⟨⟨⟨?_,?_⟩,⟨⟨rfl,?_⟩,trivial⟩⟩,trivial⟩⟩,⟨⟨⟨rfl,⟨rfl,⟨rfl,⟨rfl,⟨?_,⟨?_,?_⟩⟩⟩⟩⟩⟩,⟨⟨rfl,⟨rfl,⟨rfl,⟨rfl,⟨?_,⟨?_,?_⟩⟩⟩⟩⟩⟩,⟨⟨?_,?_⟩,⟨⟨rfl,?_⟩,trivial⟩⟩⟩⟩,trivial⟩⟩⟩⟩⟩,trivial⟩⟩⟩⟩⟩⟩⟩⟩⟩⟩⟩⟩⟩,λ KR=>⟨⟨rfl,⟨rfl,⟨rfl,⟨rfl,⟨?_,⟨?_,?_⟩⟩⟩⟩⟩⟩,⟨⟨rfl,⟨rfl,⟨rfl,⟨rfl,⟨?_,⟨?_,?_⟩⟩⟩⟩⟩⟩,⟨rfl,⟨rfl,⟨rfl,⟨rfl,⟨rfl,⟨rfl,⟨rfl,⟨rfl,⟨?_,⟨⟨rfl,⟨rfl,⟨rfl,⟨rfl,⟨rfl,⟨rfl,⟨rfl,⟨rfl,⟨?_,⟨⟨rfl,⟨rfl,⟨rfl,⟨rfl,⟨rfl,⟨rfl,⟨rfl,⟨rfl,⟨?_,⟨⟨⟨?_,?_⟩,⟨⟨rfl,?_⟩,trivial⟩⟩,⟨⟨⟨?_,?_⟩,⟨⟨rfl,?_⟩,trivial⟩⟩,trivial⟩⟩⟩⟩⟩⟩⟩⟩⟩⟩⟩,⟨⟨⟨⟨⟨?_,?_⟩,⟨⟨rfl,?_⟩,trivial⟩⟩,⟨⟨⟨?_,?_⟩,⟨⟨rfl,?_⟩,trivial⟩⟩,trivial⟩⟩,⟨⟨⟨?_,?_⟩,⟨⟨rfl,?_⟩,trivial⟩⟩,trivial⟩⟩,trivial⟩⟩⟩⟩⟩⟩⟩⟩⟩⟩⟩,⟨⟨⟨rfl,⟨rfl,⟨rfl,⟨rfl,⟨?_,⟨?_,?_⟩⟩⟩⟩⟩⟩,⟨⟨rfl,⟨rfl,⟨rfl,⟨rfl,⟨?_,⟨?_,?_⟩⟩⟩⟩⟩⟩,⟨⟨⟨⟨⟨?_,?_⟩,⟨⟨rfl,?_⟩,trivial⟩⟩,⟨⟨⟨?_,?_⟩,⟨⟨rfl,?_⟩,trivial⟩⟩,trivial⟩⟩,⟨⟨⟨?_,?_⟩,⟨⟨rfl,?_⟩,trivial⟩⟩,trivial⟩⟩,⟨⟨⟨rfl,⟨rfl,⟨rfl,⟨rfl,⟨?_,⟨?_,?_⟩⟩⟩⟩⟩⟩,⟨⟨rfl,⟨rfl,⟨rfl,⟨rfl,⟨?_,⟨?_,?_⟩⟩⟩⟩⟩⟩,⟨⟨?_,?_⟩,⟨⟨rfl,?_⟩,trivial⟩⟩⟩⟩,trivial⟩⟩⟩⟩,trivial⟩⟩⟩⟩⟩⟩⟩⟩⟩⟩⟩⟩⟩⟩,λ sN=>⟨⟨rfl,⟨rfl,⟨rfl,⟨rfl,⟨?_,⟨?_,?_⟩⟩⟩⟩⟩⟩,⟨⟨rfl,⟨rfl,⟨rfl,⟨rfl,⟨?_,⟨?_,?_⟩⟩⟩⟩⟩⟩,⟨rfl,⟨rfl,⟨rfl,⟨rfl,⟨rfl,⟨?_,⟨rfl,⟨rfl,⟨?_,⟨⟨rfl,⟨rfl,⟨rfl,⟨rfl,⟨rfl,⟨?_,⟨rfl,⟨rfl,⟨?_,⟨⟨rfl,⟨rfl,⟨rfl,⟨rfl,⟨rfl,⟨?_,⟨rfl,⟨rfl,⟨?_,⟨⟨⟨?_,?_⟩,⟨⟨rfl,?_⟩,trivial⟩⟩,⟨⟨⟨?_,?_⟩,⟨⟨rfl,?_⟩,trivial⟩⟩,trivial⟩⟩⟩⟩⟩⟩⟩⟩⟩⟩⟩,⟨⟨⟨⟨⟨?_,?_⟩,⟨⟨rfl,?_⟩,trivial⟩⟩,⟨⟨⟨?_,?_⟩,⟨⟨rfl,?_⟩,trivial⟩⟩,trivial⟩⟩,⟨⟨⟨?_,?_⟩,⟨⟨rfl,?_⟩,trivial⟩⟩,trivial⟩⟩,trivial⟩⟩⟩⟩⟩⟩⟩⟩⟩⟩⟩,⟨⟨⟨rfl,⟨rfl,⟨rfl,⟨rfl,⟨?_,⟨?_,?_⟩⟩⟩⟩⟩⟩,⟨⟨rfl,⟨rfl,⟨rfl,⟨rfl,⟨?_,⟨?_,?_⟩⟩⟩⟩⟩⟩,⟨⟨⟨⟨⟨?_,?_⟩,⟨⟨rfl,?_⟩,trivial⟩⟩,⟨⟨⟨?_,?_⟩,⟨⟨rfl,?_⟩,trivial⟩⟩,trivial⟩⟩,⟨⟨⟨?_,?_⟩,⟨⟨rfl,?_⟩,trivial⟩⟩,trivial⟩⟩,⟨⟨⟨rfl,⟨rfl,⟨rfl,⟨rfl,⟨?_,⟨?_,?_⟩⟩⟩⟩⟩⟩,⟨⟨rfl,⟨rfl,⟨rfl,⟨rfl,⟨?_,⟨?_,?_⟩⟩⟩⟩⟩⟩,⟨⟨?_,?_⟩,⟨⟨rfl,?_⟩,trivial⟩⟩⟩⟩,trivial⟩⟩⟩⟩,trivial⟩⟩⟩⟩⟩⟩⟩⟩⟩⟩⟩⟩⟩⟩,λ vB=>⟨⟨rfl,⟨rfl,⟨rfl,⟨rfl,⟨?_,⟨?_,?_⟩⟩⟩⟩⟩⟩,⟨⟨rfl,⟨rfl,⟨rfl,⟨rfl,⟨?_,⟨?_,?_⟩⟩⟩⟩⟩⟩,⟨rfl,⟨rfl,⟨?_,⟨rfl,⟨rfl,⟨?_,⟨rfl,⟨rfl,⟨?_,⟨⟨rfl,⟨rfl,⟨?_,⟨rfl,⟨rfl,⟨?_,⟨rfl,⟨rfl,⟨?_,⟨⟨rfl,⟨rfl,⟨?_,⟨rfl,⟨rfl,⟨?_,⟨rfl,⟨rfl,⟨?_,⟨⟨⟨?_,?_⟩,⟨⟨rfl,?_⟩,trivial⟩⟩,⟨⟨⟨?_,?_⟩,⟨⟨rfl,?_⟩,trivial⟩⟩,trivial⟩⟩⟩⟩⟩⟩⟩⟩⟩⟩⟩,⟨⟨⟨⟨⟨?_,?_⟩,⟨⟨rfl,?_⟩,trivial⟩⟩,⟨⟨⟨?_,?_⟩,⟨⟨rfl,?_⟩,trivial⟩⟩,trivial⟩⟩,⟨⟨⟨?_,?_⟩,⟨⟨rfl,?_⟩,trivial⟩⟩,trivial⟩⟩,trivial⟩⟩⟩⟩⟩⟩⟩⟩⟩⟩⟩,⟨⟨⟨rfl,⟨rfl,⟨rfl,⟨rfl,⟨?_,⟨?_,?_⟩⟩⟩⟩⟩⟩,⟨⟨rfl,⟨rfl,⟨rfl,⟨rfl,⟨?_,⟨?_,?_⟩⟩⟩⟩⟩⟩,⟨⟨⟨⟨⟨?_,?_⟩,⟨⟨rfl,?_⟩,trivial⟩⟩,⟨⟨⟨?_,?_⟩,⟨⟨rfl,?_⟩,trivial⟩⟩,trivial⟩⟩,⟨⟨⟨?_,?_⟩,⟨⟨rfl,?_⟩,trivial⟩⟩,trivial⟩⟩,⟨⟨⟨rfl,⟨rfl,⟨rfl,⟨rfl,⟨?_,⟨?_,?_⟩⟩⟩⟩⟩⟩,⟨⟨rfl,⟨rfl,⟨rfl,⟨rfl,⟨?_,⟨?_,?_⟩⟩⟩⟩⟩⟩,⟨⟨?_,?_⟩,⟨⟨rfl,?_⟩,trivial⟩⟩⟩⟩,trivial⟩⟩⟩⟩,trivial⟩⟩⟩⟩⟩⟩⟩⟩⟩⟩⟩⟩⟩⟩⟩⟩⟩,λ gl=>⟨⟨?_,⟨(),⟨?_,⟨⟨trivial,⟨rfl,⟨trivial,⟨rfl,⟨?_,trivial⟩⟩⟩⟩⟩,⟨⟨rfl,⟨?_,trivial⟩⟩,⟨⟨rfl,⟨rfl,⟨rfl,⟨rfl,⟨trivial,⟨trivial,trivial⟩⟩⟩⟩⟩⟩,trivial⟩⟩⟩⟩⟩⟩,λ u6=>λ jn=>⟨λ a12=>⟨⟨?_,⟨(xE t 40 (O t a [105,102,32])),⟨?_,⟨⟨trivial,⟨rfl,⟨trivial,⟨rfl,⟨trivial,⟨?_,trivial⟩⟩⟩⟩⟩⟩,⟨⟨rfl,⟨?_,trivial⟩⟩,⟨⟨?_,⟨?_,⟨trivial,trivial⟩⟩⟩,⟨?_,⟨⟨rfl,⟨rfl,⟨rfl,⟨rfl,⟨trivial,⟨trivial,trivial⟩⟩⟩⟩⟩⟩,trivial⟩⟩⟩⟩⟩⟩⟩⟩,λ C7=>λ vB=>⟨⟨?_,⟨λ sN=>⟨(),⟨?_,⟨⟨trivial,⟨rfl,⟨trivial,⟨rfl,⟨trivial,⟨?_,trivial⟩⟩⟩⟩⟩⟩,⟨⟨rfl,⟨?_,trivial⟩⟩,⟨⟨rfl,⟨rfl,⟨trivial,trivial⟩⟩⟩,⟨rfl,⟨⟨rfl,⟨rfl,⟨rfl,⟨rfl,⟨trivial,⟨trivial,trivial⟩⟩⟩⟩⟩⟩,trivial⟩⟩⟩⟩⟩⟩⟩,λ sN=>⟨(),⟨?_,⟨⟨trivial,⟨rfl,⟨trivial,⟨rfl,⟨trivial,⟨?_,trivial⟩⟩⟩⟩⟩⟩,⟨⟨rfl,⟨?_,trivial⟩⟩,⟨⟨rfl,⟨rfl,⟨trivial,trivial⟩⟩⟩,⟨rfl,⟨⟨rfl,⟨rfl,⟨rfl,⟨rfl,⟨trivial,⟨trivial,trivial⟩⟩⟩⟩⟩⟩,trivial⟩⟩⟩⟩⟩⟩⟩⟩⟩,λ u8=>λ sN=>⟨⟨?_,⟨?_,⟨(PI t (d - 1) (O t (C7.a:Int) [32,116,104,101,110,32])),⟨?_,⟨⟨trivial,⟨rfl,⟨trivial,⟨rfl,⟨trivial,⟨rfl,⟨trivial,⟨?_,trivial⟩⟩⟩⟩⟩⟩⟩⟩,⟨⟨rfl,⟨?_,trivial⟩⟩,⟨⟨rfl,⟨rfl,⟨trivial,trivial⟩⟩⟩,⟨rfl,⟨⟨?_,⟨?_,⟨?_,⟨?_,⟨trivial,⟨trivial,trivial⟩⟩⟩⟩⟩⟩,⟨?_,⟨?_,⟨⟨rfl,⟨rfl,⟨rfl,⟨rfl,⟨trivial,⟨trivial,trivial⟩⟩⟩⟩⟩⟩,trivial⟩⟩⟩⟩⟩⟩⟩⟩⟩⟩⟩⟩,λ X9=>λ KR=>⟨?_,⟨⟨?_,⟨?_,⟨(PI t (d - 1) (O t X9.a [32,101,108,115,101,32])),⟨?_,⟨⟨trivial,⟨trivial,⟨rfl,⟨trivial,⟨rfl,⟨trivial,⟨rfl,⟨?_,⟨trivial,⟨?_,trivial⟩⟩⟩⟩⟩⟩⟩⟩⟩⟩,⟨⟨rfl,⟨?_,trivial⟩⟩,⟨⟨rfl,⟨rfl,⟨trivial,trivial⟩⟩⟩,⟨rfl,⟨⟨rfl,⟨rfl,⟨rfl,⟨rfl,⟨trivial,⟨trivial,trivial⟩⟩⟩⟩⟩⟩,⟨rfl,⟨rfl,⟨⟨?_,⟨?_,⟨?_,⟨?_,⟨trivial,⟨trivial,trivial⟩⟩⟩⟩⟩⟩,⟨?_,⟨?_,⟨⟨rfl,⟨rfl,⟨rfl,⟨rfl,⟨trivial,⟨trivial,trivial⟩⟩⟩⟩⟩⟩,trivial⟩⟩⟩⟩⟩⟩⟩⟩⟩⟩⟩⟩⟩⟩⟩,λ dh=>λ FI=>⟨λ P8=>⟨λ HQ=>⟨λ KS=>⟨λ a20=>⟨⟨rfl,⟨rfl,⟨?_,?_⟩⟩⟩,⟨⟨rfl,⟨rfl,⟨rfl,⟨rfl,⟨?_,⟨?_,?_⟩⟩⟩⟩⟩⟩,⟨⟨rfl,⟨rfl,⟨rfl,⟨rfl,⟨?_,⟨?_,?_⟩⟩⟩⟩⟩⟩,⟨rfl,⟨rfl,⟨rfl,⟨rfl,⟨rfl,⟨rfl,⟨rfl,⟨rfl,⟨rfl,⟨rfl,⟨rfl,⟨⟨?_,?_⟩,⟨⟨⟨rfl,⟨rfl,⟨?_,?_⟩⟩⟩,⟨rfl,⟨rfl,⟨rfl,⟨rfl,⟨rfl,⟨rfl,⟨rfl,⟨rfl,⟨rfl,⟨rfl,⟨rfl,⟨⟨?_,?_⟩,⟨⟨rfl,⟨rfl,⟨rfl,⟨rfl,⟨rfl,⟨rfl,⟨rfl,⟨rfl,⟨rfl,⟨rfl,⟨rfl,⟨⟨?_,?_⟩,⟨?_,⟨⟨⟨?_,?_⟩,⟨⟨rfl,?_⟩,trivial⟩⟩,⟨⟨⟨?_,?_⟩,⟨⟨rfl,?_⟩,trivial⟩⟩,trivial⟩⟩⟩⟩⟩⟩⟩⟩⟩⟩⟩⟩⟩⟩⟩,⟨⟨?_,⟨⟨rfl,⟨rfl,⟨?_,?_⟩⟩⟩,⟨⟨⟨⟨?_,?_⟩,⟨⟨rfl,?_⟩,trivial⟩⟩,⟨⟨⟨?_,?_⟩,⟨⟨rfl,?_⟩,trivial⟩⟩,trivial⟩⟩,⟨⟨⟨rfl,⟨rfl,⟨?_,?_⟩⟩⟩,⟨⟨?_,?_⟩,⟨⟨rfl,?_⟩,trivial⟩⟩⟩,trivial⟩⟩⟩⟩,trivial⟩⟩⟩⟩⟩⟩⟩⟩⟩⟩⟩⟩⟩⟩⟩,⟨⟨?_,⟨⟨rfl,⟨rfl,⟨?_,?_⟩⟩⟩,⟨⟨rfl,⟨rfl,⟨rfl,⟨rfl,⟨?_,⟨?_,?_⟩⟩⟩⟩⟩⟩,⟨⟨rfl,⟨rfl,⟨rfl,⟨rfl,⟨?_,⟨?_,?_⟩⟩⟩⟩⟩⟩,⟨⟨⟨rfl,⟨rfl,⟨?_,?_⟩⟩⟩,⟨⟨⟨⟨?_,?_⟩,⟨⟨rfl,?_⟩,trivial⟩⟩,⟨⟨⟨?_,?_⟩,⟨⟨rfl,?_⟩,trivial⟩⟩,trivial⟩⟩,⟨⟨⟨rfl,⟨rfl,⟨?_,?_⟩⟩⟩,⟨⟨?_,?_⟩,⟨⟨rfl,?_⟩,trivial⟩⟩⟩,trivial⟩⟩⟩,⟨⟨⟨rfl,⟨rfl,⟨?_,?_⟩⟩⟩,⟨⟨rfl,⟨rfl,⟨rfl,⟨rfl,⟨?_,⟨?_,?_⟩⟩⟩⟩⟩⟩,⟨⟨rfl,⟨rfl,⟨rfl,⟨rfl,⟨?_,⟨?_,?_⟩⟩⟩⟩⟩⟩,⟨⟨rfl,⟨rfl,⟨?_,?_⟩⟩⟩,⟨⟨?_,?_⟩,⟨⟨rfl,?_⟩,trivial⟩⟩⟩⟩⟩⟩,trivial⟩⟩⟩⟩⟩⟩,trivial⟩⟩⟩⟩⟩⟩⟩⟩⟩⟩⟩⟩⟩⟩⟩⟩⟩,λ a20=>⟨⟨rfl,⟨rfl,⟨?_,?_⟩⟩⟩,⟨⟨rfl,⟨rfl,⟨rfl,⟨rfl,⟨?_,⟨?_,?_⟩⟩⟩⟩⟩⟩,⟨⟨rfl,⟨rfl,⟨rfl,⟨rfl,⟨?_,⟨?_,?_⟩⟩⟩⟩⟩⟩,⟨rfl,⟨rfl,⟨rfl,⟨rfl,⟨rfl,⟨rfl,⟨rfl,⟨rfl,⟨rfl,⟨rfl,⟨rfl,⟨?_,⟨⟨⟨rfl,⟨rfl,⟨?_,?_⟩⟩⟩,⟨rfl,⟨rfl,⟨rfl,⟨rfl,⟨rfl,⟨rfl,⟨rfl,⟨rfl,⟨rfl,⟨rfl,⟨rfl,⟨?_,⟨⟨rfl,⟨rfl,⟨rfl,⟨rfl,⟨rfl,⟨rfl,⟨rfl,⟨rfl,⟨rfl,⟨rfl,⟨rfl,⟨?_,⟨⟨⟨?_,?_⟩,⟨⟨rfl,?_⟩,trivial⟩⟩,⟨⟨⟨?_,?_⟩,⟨⟨rfl,?_⟩,trivial⟩⟩,trivial⟩⟩⟩⟩⟩⟩⟩⟩⟩⟩⟩⟩⟩⟩,⟨⟨⟨rfl,⟨rfl,⟨?_,?_⟩⟩⟩,⟨⟨⟨⟨?_,?_⟩,⟨⟨rfl,?_⟩,trivial⟩⟩,⟨⟨⟨?_,?_⟩,⟨⟨rfl,?_⟩,trivial⟩⟩,trivial⟩⟩,⟨⟨⟨rfl,⟨rfl,⟨?_,?_⟩⟩⟩,⟨⟨?_,?_⟩,⟨⟨rfl,?_⟩,trivial⟩⟩⟩,trivial⟩⟩⟩,trivial⟩⟩⟩⟩⟩⟩⟩⟩⟩⟩⟩⟩⟩⟩⟩,⟨⟨⟨rfl,⟨rfl,⟨?_,?_⟩⟩⟩,⟨⟨rfl,⟨rfl,⟨rfl,⟨rfl,⟨?_,⟨?_,?_⟩⟩⟩⟩⟩⟩,⟨⟨rfl,⟨rfl,⟨rfl,⟨rfl,⟨?_,⟨?_,?_⟩⟩⟩⟩⟩⟩,⟨⟨⟨rfl,⟨rfl,⟨?_,?_⟩⟩⟩,⟨⟨⟨⟨?_,?_⟩,⟨⟨rfl,?_⟩,trivial⟩⟩,⟨⟨⟨?_,?_⟩,⟨⟨rfl,?_⟩,trivial⟩⟩,trivial⟩⟩,⟨⟨⟨rfl,⟨rfl,⟨?_,?_⟩⟩⟩,⟨⟨?_,?_⟩,⟨⟨rfl,?_⟩,trivial⟩⟩⟩,trivial⟩⟩⟩,⟨⟨⟨rfl,⟨rfl,⟨?_,?_⟩⟩⟩,⟨⟨rfl,⟨rfl,⟨rfl,⟨rfl,⟨?_,⟨?_,?_⟩⟩⟩⟩⟩⟩,⟨⟨rfl,⟨rfl,⟨rfl,⟨rfl,⟨?_,⟨?_,?_⟩⟩⟩⟩⟩⟩,⟨⟨rfl,⟨rfl,⟨?_,?_⟩⟩⟩,⟨⟨?_,?_⟩,⟨⟨rfl,?_⟩,trivial⟩⟩⟩⟩⟩⟩,trivial⟩⟩⟩⟩⟩,trivial⟩⟩⟩⟩⟩⟩⟩⟩⟩⟩⟩⟩⟩⟩⟩⟩⟩⟩,λ KS=>⟨⟨rfl,⟨rfl,⟨?_,?_⟩⟩⟩,⟨⟨rfl,⟨rfl,⟨rfl,⟨rfl,⟨?_,⟨?_,?_⟩⟩⟩⟩⟩⟩,⟨⟨rfl,⟨rfl,⟨rfl,⟨rfl,⟨?_,⟨?_,?_⟩⟩⟩⟩⟩⟩,⟨rfl,⟨rfl,⟨rfl,⟨rfl,⟨rfl,⟨rfl,⟨rfl,⟨rfl,⟨?_,⟨rfl,⟨rfl,⟨?_,⟨⟨⟨rfl,⟨rfl,⟨?_,?_⟩⟩⟩,⟨rfl,⟨rfl,⟨rfl,⟨rfl,⟨rfl,⟨rfl,⟨rfl,⟨rfl,⟨?_,⟨rfl,⟨rfl,⟨?_,⟨⟨rfl,⟨rfl,⟨rfl,⟨rfl,⟨rfl,⟨rfl,⟨rfl,⟨rfl,⟨?_,⟨rfl,⟨rfl,⟨?_,⟨⟨⟨?_,?_⟩,⟨⟨rfl,?_⟩,trivial⟩⟩,⟨⟨⟨?_,?_⟩,⟨⟨rfl,?_⟩,trivial⟩⟩,trivial⟩⟩⟩⟩⟩⟩⟩⟩⟩⟩⟩⟩⟩⟩,⟨⟨⟨rfl,⟨rfl,⟨?_,?_⟩⟩⟩,⟨⟨⟨⟨?_,?_⟩,⟨⟨rfl,?_⟩,trivial⟩⟩,⟨⟨⟨?_,?_⟩,⟨⟨rfl,?_⟩,trivial⟩⟩,trivial⟩⟩,⟨⟨⟨rfl,⟨rfl,⟨?_,?_⟩⟩⟩,⟨⟨?_,?_⟩,⟨⟨rfl,?_⟩,trivial⟩⟩⟩,trivial⟩⟩⟩,trivial⟩⟩⟩⟩⟩⟩⟩⟩⟩⟩⟩⟩⟩⟩⟩,⟨⟨⟨rfl,⟨rfl,⟨?_,?_⟩⟩⟩,⟨⟨rfl,⟨rfl,⟨rfl,⟨rfl,⟨?_,⟨?_,?_⟩⟩⟩⟩⟩⟩,⟨⟨rfl,⟨rfl,⟨rfl,⟨rfl,⟨?_,⟨?_,?_⟩⟩⟩⟩⟩⟩,⟨⟨⟨rfl,⟨rfl,⟨?_,?_⟩⟩⟩,⟨⟨⟨⟨?_,?_⟩,⟨⟨rfl,?_⟩,trivial⟩⟩,⟨⟨⟨?_,?_⟩,⟨⟨rfl,?_⟩,trivial⟩⟩,trivial⟩⟩,⟨⟨⟨rfl,⟨rfl,⟨?_,?_⟩⟩⟩,⟨⟨?_,?_⟩,⟨⟨rfl,?_⟩,trivial⟩⟩⟩,trivial⟩⟩⟩,⟨⟨⟨rfl,⟨rfl,⟨?_,?_⟩⟩⟩,⟨⟨rfl,⟨rfl,⟨rfl,⟨rfl,⟨?_,⟨?_,?_⟩⟩⟩⟩⟩⟩,⟨⟨rfl,⟨rfl,⟨rfl,⟨rfl,⟨?_,⟨?_,?_⟩⟩⟩⟩⟩⟩,⟨⟨rfl,⟨rfl,⟨?_,?_⟩⟩⟩,⟨⟨?_,?_⟩,⟨⟨rfl,?_⟩,trivial⟩⟩⟩⟩⟩⟩,trivial⟩⟩⟩⟩⟩,trivial⟩⟩⟩⟩⟩⟩⟩⟩⟩⟩⟩⟩⟩⟩⟩⟩⟩⟩,λ HQ=>⟨⟨rfl,⟨rfl,⟨?_,?_⟩⟩⟩,⟨⟨rfl,⟨rfl,⟨rfl,⟨rfl,⟨?_,⟨?_,?_⟩⟩⟩⟩⟩⟩,⟨⟨rfl,⟨rfl,⟨rfl,⟨rfl,⟨?_,⟨?_,?_⟩⟩⟩⟩⟩⟩,⟨rfl,⟨rfl,⟨rfl,⟨rfl,⟨rfl,⟨?_,⟨rfl,⟨rfl,⟨?_,⟨rfl,⟨rfl,⟨?_,⟨⟨⟨rfl,⟨rfl,⟨?_,?_⟩⟩⟩,⟨rfl,⟨rfl,⟨rfl,⟨rfl,⟨rfl,⟨?_,⟨rfl,⟨rfl,⟨?_,⟨rfl,⟨rfl,⟨?_,⟨⟨rfl,⟨rfl,⟨rfl,⟨rfl,⟨rfl,⟨?_,⟨rfl,⟨rfl,⟨?_,⟨rfl,⟨rfl,⟨?_,⟨⟨⟨?_,?_⟩,⟨⟨rfl,?_⟩,trivial⟩⟩,⟨⟨⟨?_,?_⟩,⟨⟨rfl,?_⟩,trivial⟩⟩,trivial⟩⟩⟩⟩⟩⟩⟩⟩⟩⟩⟩⟩⟩⟩,⟨⟨⟨rfl,⟨rfl,⟨?_,?_⟩⟩⟩,⟨⟨⟨⟨?_,?_⟩,⟨⟨rfl,?_⟩,trivial⟩⟩,⟨⟨⟨?_,?_⟩,⟨⟨rfl,?_⟩,trivial⟩⟩,trivial⟩⟩,⟨⟨⟨rfl,⟨rfl,⟨?_,?_⟩⟩⟩,⟨⟨?_,?_⟩,⟨⟨rfl,?_⟩,trivial⟩⟩⟩,trivial⟩⟩⟩,trivial⟩⟩⟩⟩⟩⟩⟩⟩⟩⟩⟩⟩⟩⟩⟩,⟨⟨⟨rfl,⟨rfl,⟨?_,?_⟩⟩⟩,⟨⟨rfl,⟨rfl,⟨rfl,⟨rfl,⟨?_,⟨?_,?_⟩⟩⟩⟩⟩⟩,⟨⟨rfl,⟨rfl,⟨rfl,⟨rfl,⟨?_,⟨?_,?_⟩⟩⟩⟩⟩⟩,⟨⟨⟨rfl,⟨rfl,⟨?_,?_⟩⟩⟩,⟨⟨⟨⟨?_,?_⟩,⟨⟨rfl,?_⟩,trivial⟩⟩,⟨⟨⟨?_,?_⟩,⟨⟨rfl,?_⟩,trivial⟩⟩,trivial⟩⟩,⟨⟨⟨rfl,⟨rfl,⟨?_,?_⟩⟩⟩,⟨⟨?_,?_⟩,⟨⟨rfl,?_⟩,trivial⟩⟩⟩,trivial⟩⟩⟩,⟨⟨⟨rfl,⟨rfl,⟨?_,?_⟩⟩⟩,⟨⟨rfl,⟨rfl,⟨rfl,⟨rfl,⟨?_,⟨?_,?_⟩⟩⟩⟩⟩⟩,⟨⟨rfl,⟨rfl,⟨rfl,⟨rfl,⟨?_,⟨?_,?_⟩⟩⟩⟩⟩⟩,⟨⟨rfl,⟨rfl,⟨?_,?_⟩⟩⟩,⟨⟨?_,?_⟩,⟨⟨rfl,?_⟩,trivial⟩⟩⟩⟩⟩⟩,trivial⟩⟩⟩⟩⟩,trivial⟩⟩⟩⟩⟩⟩⟩⟩⟩⟩⟩⟩⟩⟩⟩⟩⟩⟩,λ P8=>⟨⟨rfl,⟨rfl,⟨?_,?_⟩⟩⟩,⟨⟨rfl,⟨rfl,⟨rfl,⟨rfl,⟨?_,⟨?_,?_⟩⟩⟩⟩⟩⟩,⟨⟨rfl,⟨rfl,⟨rfl,⟨rfl,⟨?_,⟨?_,?_⟩⟩⟩⟩⟩⟩,⟨rfl,⟨rfl,⟨?_,⟨rfl,⟨rfl,⟨?_,⟨rfl,⟨rfl,⟨?_,⟨rfl,⟨rfl,⟨?_,⟨⟨⟨rfl,⟨rfl,⟨?_,?_⟩⟩⟩,⟨rfl,⟨rfl,⟨?_,⟨rfl,⟨rfl,⟨?_,⟨rfl,⟨rfl,⟨?_,⟨rfl,⟨rfl,⟨?_,⟨⟨rfl,⟨rfl,⟨?_,⟨rfl,⟨rfl,⟨?_,⟨rfl,⟨rfl,⟨?_,⟨rfl,⟨rfl,⟨?_,⟨⟨⟨?_,?_⟩,⟨⟨rfl,?_⟩,trivial⟩⟩,⟨⟨⟨?_,?_⟩,⟨⟨rfl,?_⟩,trivial⟩⟩,trivial⟩⟩⟩⟩⟩⟩⟩⟩⟩⟩⟩⟩⟩⟩,⟨⟨⟨rfl,⟨rfl,⟨?_,?_⟩⟩⟩,⟨⟨⟨⟨?_,?_⟩,⟨⟨rfl,?_⟩,trivial⟩⟩,⟨⟨⟨?_,?_⟩,⟨⟨rfl,?_⟩,trivial⟩⟩,trivial⟩⟩,⟨⟨⟨rfl,⟨rfl,⟨?_,?_⟩⟩⟩,⟨⟨?_,?_⟩,⟨⟨rfl,?_⟩,trivial⟩⟩⟩,trivial⟩⟩⟩,trivial⟩⟩⟩⟩⟩⟩⟩⟩⟩⟩⟩⟩⟩⟩⟩,⟨⟨⟨rfl,⟨rfl,⟨?_,?_⟩⟩⟩,⟨⟨rfl,⟨rfl,⟨rfl,⟨rfl,⟨?_,⟨?_,?_⟩⟩⟩⟩⟩⟩,⟨⟨rfl,⟨rfl,⟨rfl,⟨rfl,⟨?_,⟨?_,?_⟩⟩⟩⟩⟩⟩,⟨⟨⟨rfl,⟨rfl,⟨?_,?_⟩⟩⟩,⟨⟨⟨⟨?_,?_⟩,⟨⟨rfl,?_⟩,trivial⟩⟩,⟨⟨⟨?_,?_⟩,⟨⟨rfl,?_⟩,trivial⟩⟩,trivial⟩⟩,⟨⟨⟨rfl,⟨rfl,⟨?_,?_⟩⟩⟩,⟨⟨?_,?_⟩,⟨⟨rfl,?_⟩,trivial⟩⟩⟩,trivial⟩⟩⟩,⟨⟨⟨rfl,⟨rfl,⟨?_,?_⟩⟩⟩,⟨⟨rfl,⟨rfl,⟨rfl,⟨rfl,⟨?_,⟨?_,?_⟩⟩⟩⟩⟩⟩,⟨⟨rfl,⟨rfl,⟨rfl,⟨rfl,⟨?_,⟨?_,?_⟩⟩⟩⟩⟩⟩,⟨⟨rfl,⟨rfl,⟨?_,?_⟩⟩⟩,⟨⟨?_,?_⟩,⟨⟨rfl,?_⟩,trivial⟩⟩⟩⟩⟩⟩,trivial⟩⟩⟩⟩⟩,trivial⟩⟩⟩⟩⟩⟩⟩⟩⟩⟩⟩⟩⟩⟩⟩⟩⟩⟩⟩⟩⟩⟩⟩,λ a12=>⟨⟨?_,⟨(),⟨?_,⟨⟨trivial,⟨rfl,⟨trivial,⟨rfl,⟨?_,trivial⟩⟩⟩⟩⟩,⟨⟨rfl,⟨?_,trivial⟩⟩,⟨⟨rfl,⟨rfl,⟨rfl,⟨rfl,⟨trivial,⟨trivial,trivial⟩⟩⟩⟩⟩⟩,trivial⟩⟩⟩⟩⟩⟩,λ u7=>λ vB=>⟨λ sN=>⟨⟨?_,⟨(xE t 40 (O t a [119,104,105,108,101,32])),⟨?_,⟨⟨trivial,⟨rfl,⟨trivial,⟨rfl,⟨trivial,⟨?_,trivial⟩⟩⟩⟩⟩⟩,⟨⟨rfl,⟨?_,trivial⟩⟩,⟨⟨?_,⟨?_,⟨trivial,trivial⟩⟩⟩,⟨?_,⟨⟨rfl,⟨rfl,⟨rfl,⟨rfl,⟨trivial,⟨trivial,trivial⟩⟩⟩⟩⟩⟩,trivial⟩⟩⟩⟩⟩⟩⟩⟩,λ C8=>λ KR=>⟨⟨?_,⟨λ FI=>⟨(),⟨?_,⟨⟨trivial,⟨rfl,⟨trivial,⟨rfl,⟨trivial,⟨?_,trivial⟩⟩⟩⟩⟩⟩,⟨⟨rfl,⟨?_,trivial⟩⟩,⟨⟨rfl,⟨rfl,⟨trivial,trivial⟩⟩⟩,⟨rfl,⟨⟨rfl,⟨rfl,⟨rfl,⟨rfl,⟨trivial,⟨trivial,trivial⟩⟩⟩⟩⟩⟩,trivial⟩⟩⟩⟩⟩⟩⟩,λ FI=>⟨(),⟨?_,⟨⟨trivial,⟨rfl,⟨trivial,⟨rfl,⟨trivial,⟨?_,trivial⟩⟩⟩⟩⟩⟩,⟨⟨rfl,⟨?_,trivial⟩⟩,⟨⟨rfl,⟨rfl,⟨trivial,trivial⟩⟩⟩,⟨rfl,⟨⟨rfl,⟨rfl,⟨rfl,⟨rfl,⟨trivial,⟨trivial,trivial⟩⟩⟩⟩⟩⟩,trivial⟩⟩⟩⟩⟩⟩⟩⟩⟩,λ u9=>λ FI=>⟨⟨?_,⟨?_,⟨(PI t (d - 1) (O t (C8.a:Int) [32,100,111,32])),⟨?_,⟨⟨trivial,⟨trivial,⟨rfl,⟨trivial,⟨rfl,⟨trivial,⟨?_,trivial⟩⟩⟩⟩⟩⟩⟩,⟨⟨rfl,⟨?_,trivial⟩⟩,⟨⟨rfl,⟨rfl,⟨trivial,trivial⟩⟩⟩,⟨rfl,⟨⟨?_,⟨?_,⟨?_,⟨?_,⟨trivial,⟨trivial,trivial⟩⟩⟩⟩⟩⟩,⟨?_,⟨?_,⟨⟨rfl,⟨rfl,⟨rfl,⟨rfl,⟨trivial,⟨trivial,trivial⟩⟩⟩⟩⟩⟩,trivial⟩⟩⟩⟩⟩⟩⟩⟩⟩⟩⟩⟩,λ dG=>λ P8=>⟨λ HQ=>⟨λ KS=>⟨⟨rfl,⟨rfl,⟨?_,?_⟩⟩⟩,⟨⟨rfl,⟨rfl,⟨rfl,⟨rfl,⟨?_,⟨?_,?_⟩⟩⟩⟩⟩⟩,⟨rfl,⟨rfl,⟨rfl,⟨rfl,⟨rfl,⟨⟨?_,?_⟩,⟨⟨⟨rfl,⟨rfl,⟨?_,?_⟩⟩⟩,⟨rfl,⟨rfl,⟨rfl,⟨rfl,⟨rfl,⟨⟨?_,?_⟩,⟨⟨rfl,⟨rfl,⟨rfl,⟨rfl,⟨rfl,⟨⟨?_,?_⟩,⟨?_,⟨⟨⟨?_,?_⟩,⟨⟨rfl,?_⟩,trivial⟩⟩,⟨⟨⟨?_,?_⟩,⟨⟨rfl,?_⟩,trivial⟩⟩,trivial⟩⟩⟩⟩⟩⟩⟩⟩⟩,⟨⟨?_,⟨⟨rfl,⟨rfl,⟨?_,?_⟩⟩⟩,⟨⟨⟨⟨?_,?_⟩,⟨⟨rfl,?_⟩,trivial⟩⟩,⟨⟨⟨?_,?_⟩,⟨⟨rfl,?_⟩,trivial⟩⟩,trivial⟩⟩,⟨⟨⟨rfl,⟨rfl,⟨?_,?_⟩⟩⟩,⟨⟨?_,?_⟩,⟨⟨rfl,?_⟩,trivial⟩⟩⟩,trivial⟩⟩⟩⟩,trivial⟩⟩⟩⟩⟩⟩⟩⟩⟩,⟨⟨?_,⟨⟨rfl,⟨rfl,⟨?_,?_⟩⟩⟩,⟨⟨rfl,⟨rfl,⟨rfl,⟨rfl,⟨?_,⟨?_,?_⟩⟩⟩⟩⟩⟩,⟨⟨⟨rfl,⟨rfl,⟨?_,?_⟩⟩⟩,⟨⟨⟨⟨?_,?_⟩,⟨⟨rfl,?_⟩,trivial⟩⟩,⟨⟨⟨?_,?_⟩,⟨⟨rfl,?_⟩,trivial⟩⟩,trivial⟩⟩,⟨⟨⟨rfl,⟨rfl,⟨?_,?_⟩⟩⟩,⟨⟨?_,?_⟩,⟨⟨rfl,?_⟩,trivial⟩⟩⟩,trivial⟩⟩⟩,⟨⟨⟨rfl,⟨rfl,⟨?_,?_⟩⟩⟩,⟨⟨rfl,⟨rfl,⟨rfl,⟨rfl,⟨?_,⟨?_,?_⟩⟩⟩⟩⟩⟩,⟨⟨rfl,⟨rfl,⟨?_,?_⟩⟩⟩,⟨⟨?_,?_⟩,⟨⟨rfl,?_⟩,trivial⟩⟩⟩⟩⟩,trivial⟩⟩⟩⟩⟩,trivial⟩⟩⟩⟩⟩⟩⟩⟩⟩⟩,λ KS=>⟨⟨rfl,⟨rfl,⟨?_,?_⟩⟩⟩,⟨⟨rfl,⟨rfl,⟨rfl,⟨rfl,⟨?_,⟨?_,?_⟩⟩⟩⟩⟩⟩,⟨rfl,⟨rfl,⟨rfl,⟨rfl,⟨rfl,⟨?_,⟨⟨⟨rfl,⟨rfl,⟨?_,?_⟩⟩⟩,⟨rfl,⟨rfl,⟨rfl,⟨rfl,⟨rfl,⟨?_,⟨⟨rfl,⟨rfl,⟨rfl,⟨rfl,⟨rfl,⟨?_,⟨⟨⟨?_,?_⟩,⟨⟨rfl,?_⟩,trivial⟩⟩,⟨⟨⟨?_,?_⟩,⟨⟨rfl,?_⟩,trivial⟩⟩,trivial⟩⟩⟩⟩⟩⟩⟩⟩,⟨⟨⟨rfl,⟨rfl,⟨?_,?_⟩⟩⟩,⟨⟨⟨⟨?_,?_⟩,⟨⟨rfl,?_⟩,trivial⟩⟩,⟨⟨⟨?_,?_⟩,⟨⟨rfl,?_⟩,trivial⟩⟩,trivial⟩⟩,⟨⟨⟨rfl,⟨rfl,⟨?_,?_⟩⟩⟩,⟨⟨?_,?_⟩,⟨⟨rfl,?_⟩,trivial⟩⟩⟩,trivial⟩⟩⟩,trivial⟩⟩⟩⟩⟩⟩⟩⟩⟩,⟨⟨⟨rfl,⟨rfl,⟨?_,?_⟩⟩⟩,⟨⟨rfl,⟨rfl,⟨rfl,⟨rfl,⟨?_,⟨?_,?_⟩⟩⟩⟩⟩⟩,⟨⟨⟨rfl,⟨rfl,⟨?_,?_⟩⟩⟩,⟨⟨⟨⟨?_,?_⟩,⟨⟨rfl,?_⟩,trivial⟩⟩,⟨⟨⟨?_,?_⟩,⟨⟨rfl,?_⟩,trivial⟩⟩,trivial⟩⟩,⟨⟨⟨rfl,⟨rfl,⟨?_,?_⟩⟩⟩,⟨⟨?_,?_⟩,⟨⟨rfl,?_⟩,trivial⟩⟩⟩,trivial⟩⟩⟩,⟨⟨⟨rfl,⟨rfl,⟨?_,?_⟩⟩⟩,⟨⟨rfl,⟨rfl,⟨rfl,⟨rfl,⟨?_,⟨?_,?_⟩⟩⟩⟩⟩⟩,⟨⟨rfl,⟨rfl,⟨?_,?_⟩⟩⟩,⟨⟨?_,?_⟩,⟨⟨rfl,?_⟩,trivial⟩⟩⟩⟩⟩,trivial⟩⟩⟩⟩,trivial⟩⟩⟩⟩⟩⟩⟩⟩⟩⟩⟩,λ HQ=>⟨⟨rfl,⟨rfl,⟨?_,?_⟩⟩⟩,⟨⟨rfl,⟨rfl,⟨rfl,⟨rfl,⟨?_,⟨?_,?_⟩⟩⟩⟩⟩⟩,⟨rfl,⟨rfl,⟨?_,⟨rfl,⟨rfl,⟨?_,⟨⟨⟨rfl,⟨rfl,⟨?_,?_⟩⟩⟩,⟨rfl,⟨rfl,⟨?_,⟨rfl,⟨rfl,⟨?_,⟨⟨rfl,⟨rfl,⟨?_,⟨rfl,⟨rfl,⟨?_,⟨⟨⟨?_,?_⟩,⟨⟨rfl,?_⟩,trivial⟩⟩,⟨⟨⟨?_,?_⟩,⟨⟨rfl,?_⟩,trivial⟩⟩,trivial⟩⟩⟩⟩⟩⟩⟩⟩,⟨⟨⟨rfl,⟨rfl,⟨?_,?_⟩⟩⟩,⟨⟨⟨⟨?_,?_⟩,⟨⟨rfl,?_⟩,trivial⟩⟩,⟨⟨⟨?_,?_⟩,⟨⟨rfl,?_⟩,trivial⟩⟩,trivial⟩⟩,⟨⟨⟨rfl,⟨rfl,⟨?_,?_⟩⟩⟩,⟨⟨?_,?_⟩,⟨⟨rfl,?_⟩,trivial⟩⟩⟩,trivial⟩⟩⟩,trivial⟩⟩⟩⟩⟩⟩⟩⟩⟩,⟨⟨⟨rfl,⟨rfl,⟨?_,?_⟩⟩⟩,⟨⟨rfl,⟨rfl,⟨rfl,⟨rfl,⟨?_,⟨?_,?_⟩⟩⟩⟩⟩⟩,⟨⟨⟨rfl,⟨rfl,⟨?_,?_⟩⟩⟩,⟨⟨⟨⟨?_,?_⟩,⟨⟨rfl,?_⟩,trivial⟩⟩,⟨⟨⟨?_,?_⟩,⟨⟨rfl,?_⟩,trivial⟩⟩,trivial⟩⟩,⟨⟨⟨rfl,⟨rfl,⟨?_,?_⟩⟩⟩,⟨⟨?_,?_⟩,⟨⟨rfl,?_⟩,trivial⟩⟩⟩,trivial⟩⟩⟩,⟨⟨⟨rfl,⟨rfl,⟨?_,?_⟩⟩⟩,⟨⟨rfl,⟨rfl,⟨rfl,⟨rfl,⟨?_,⟨?_,?_⟩⟩⟩⟩⟩⟩,⟨⟨rfl,⟨rfl,⟨?_,?_⟩⟩⟩,⟨⟨?_,?_⟩,⟨⟨rfl,?_⟩,trivial⟩⟩⟩⟩⟩,trivial⟩⟩⟩⟩,trivial⟩⟩⟩⟩⟩⟩⟩⟩⟩⟩⟩⟩⟩⟩,λ sN=>⟨(),⟨?_,⟨⟨trivial,trivial⟩,⟨⟨rfl,⟨?_,trivial⟩⟩,⟨⟨rfl,⟨rfl,⟨rfl,⟨rfl,⟨trivial,⟨trivial,trivial⟩⟩⟩⟩⟩⟩,trivial⟩⟩⟩⟩⟩⟩⟩⟩⟩⟩⟩⟩⟩⟩⟩⟩⟩⟩⟩,λ u1=>λ a1=>⟨⟨?_,?_⟩,⟨⟨rfl,?_⟩,trivial⟩⟩⟩⟩
 all_goals try and_intros
 all_goals try (first|with_reducible rfl|with_reducible assumption)
 all_goals try simp only[M.eta,ai.eta,aG,bo] at *
 all_goals first|with_reducible rfl|with_reducible assumption|trivial|((try simp only[a1F,a1L,a1Q,a1O,a2k,a2Q,ah] at *);first|with_reducible rfl|trivial|omega|with_reducible assumption|exact n0 (by omega)|exact (show NK t a d 0 from (by with_reducible assumption)).nx (show aE t a.toNat [115,107,105,112]=false from (by with_reducible assumption)) rfl|exact (show NK t a d 1 from (by with_reducible assumption)).nx (show aE t a.toNat [102,97,105,108]=false from (by with_reducible assumption)) rfl|exact (show NK t a d 2 from (by with_reducible assumption)).nx (show aE t a.toNat [97,115,115,101,114,116,32]=false from (by with_reducible assumption)) rfl|exact (show NK t a d 3 from (by with_reducible assumption)).nx (show aE t a.toNat [97]=false from (by with_reducible assumption)) rfl|exact (show NK t a d 4 from (by with_reducible assumption)).nx (show aE t a.toNat [123]=false from (by with_reducible assumption)) rfl|exact (show NK t a d 5 from (by with_reducible assumption)).nx (show aE t a.toNat [105,102,32]=false from (by with_reducible assumption)) rfl|exact (show NK t a d 6 from (by with_reducible assumption)).nx (show aE t a.toNat [119,104,105,108,101,32]=false from (by with_reducible assumption)) rfl|exact pW _ _ _ (by with_reducible assumption)|exact (PU _ _ _ _ (by with_reducible assumption)).1|exact (PU _ _ _ _ (by with_reducible assumption)).2|exact (PU _ _ _ _ (by with_reducible assumption)).1.symm|exact (PU _ _ _ _ (by with_reducible assumption)).2.symm|exact NK.sq1 (by with_reducible assumption) (by with_reducible assumption)|exact OG.sq2 (by with_reducible assumption)|exact NK.if1 (by with_reducible assumption) (by with_reducible assumption)|exact HO.if2 (by with_reducible assumption)|exact OE.if3 (by with_reducible assumption)|exact NK.wh1 (by with_reducible assumption) (by with_reducible assumption)|exact HP.wh2 (by with_reducible assumption)|(have h:NK t a d _:=(by with_reducible assumption);first|omega|exact (h.nj _).1|exact (h.nj _).2|exact h.hl|(have:=h.d0;have:=h.d1;have:=h.hl;omega))|(have h:OG t a d _:=(by with_reducible assumption);first|exact (h.rx.nj _).1|exact (h.rx.nj _).2|(have:=h.nk.d0;have:=h.nk.d1;have:=h.nk.hl;have:=h.rx.x0;have:=h.rx.x1;omega))|(have h:HO t a d _:=(by with_reducible assumption);first|exact (h.cx.nj _).1|exact (h.cx.nj _).2|(have:=h.nk.d0;have:=h.nk.d1;have:=h.nk.hl;have:=h.cx.c1;omega)|exact (XZ _ _ _ (by with_reducible assumption)).symm|exact X0 _ _ _ (by with_reducible assumption))|(have h:HP t a d _:=(by with_reducible assumption);first|exact (h.cx.nj _).1|exact (h.cx.nj _).2|(have:=h.nk.d0;have:=h.nk.d1;have:=h.nk.hl;have:=h.cx.c1;omega)|exact (XZ _ _ _ (by with_reducible assumption)).symm|exact X0 _ _ _ (by with_reducible assumption))|(have h:OE t a d _ _:=(by with_reducible assumption);first|exact (h.rx.nj _).1|exact (h.rx.nj _).2|(have:=h.i.nk.d0;have:=h.i.nk.d1;have:=h.i.nk.hl;have:=h.rx.x0;have:=h.rx.x1;omega))|(have h:UR t a d _ _:=(by with_reducible assumption);have:=h.q.nk.hl;have:=h.y.x0;have:=h.y.x1;first|omega|(rw[h.p];simp only[UB,AR, *,a3b,a2U,a2S,a2T,a2R,a2Y,aG,bo];done))|(have h:UL t a d _ _ _:=(by with_reducible assumption);have:=h.i.i.nk.hl;have:=h.y.x0;have:=h.y.x1;first|omega|(rw[h.p];simp only[Ub,AR, *,a3b,a2U,a2S,a2T,a2R,a2Y,aG,bo];done))|(have h:UT t a d _ _:=(by with_reducible assumption);have:=h.i.nk.hl;have:=h.y.x0;have:=h.y.x1;first|omega|(rw[h.p];simp only[UG,AR, *,a3b,a2U,a2S,a2T,a2R,a2Y,aG,bo];done))|(rw[NK.w0 (by with_reducible assumption) (by with_reducible assumption)];done)|(rw[NK.w1 (by with_reducible assumption) (by with_reducible assumption)];done)|(rw[NK.w2 (by with_reducible assumption) (by with_reducible assumption)];first|done|simp only[aG])|(rw[NK.w3 (by with_reducible assumption) (by with_reducible assumption)];done)|(rw[NK.end (by with_reducible assumption)];done)|(rw[ZZ t d a (by omega)];done))
theorem Nx:∀ n,gO [gE n]
 | 0=>⟨⟨aB jL rfl (by decide),λ _ _ _ h=>absurd h.1 (a2s _)⟩,trivial⟩
 | n+1=>by
  have ih:=Nx n
  exact⟨A4 n trivial trivial trivial ⟨lC,yT,pn,ih.1,trivial⟩,trivial⟩
theorem yU:gj.Good jZ :=
 ⟨aB jL rfl (by decide),λ d t a hp=>(Nx (d.toNat+1)).1.2 d t a (⟨a2l _,hp⟩)⟩
end
end Go.Proofs.YtaaamahdcpcofaaDoor

set_option maxRecDepth 4000
set_option maxHeartbeats 4000000
namespace Go.Proofs.YtaaamahdcpcofaaDoor
noncomputable section
def PR(t:List UInt8)(a L:Int)(bad:Bool):RT:=gh t (60 - L).toNat a L bad
def PA(t s:List UInt8)(a L:Int)(bad:Bool):RT:=PR t (O t a s) L (aF t a s bad)
def PB(t s:List UInt8)(x:RT):RT:=PA t s x.a x.L x.bad
theorem KQ(t:List UInt8)(a L:Int)(bad:Bool)(h:bad=true\/60<L+1):PR t a L bad=⟨zQ,a,L+1,true⟩:=by
 unfold PR
 cases bad with
 | true=>exact pk _ _ _ _
 | false =>
  rcases h with h|h
  .cases h
  .rw[show (60 - L).toNat=0 by omega];rfl
theorem KM(t s:List UInt8)(a:Int):aF t a s true=true:=by unfold aF;cases aE t a.toNat s<;>rfl
structure Nt(t:List UInt8)(L m:Int)(r:RT):Prop where
 a0:0<=r.a
 a:r.a<=(t.length:Int)
 lo:L<=r.L
 hi:r.L<=m
theorem Cn(t:List UInt8):∀ (g:Nat) (a L:Int) (bad:Bool),0<=a->a<=(t.length:Int)->0<=L->(bad=false->L+(g:Int)<=60)->Nt t L (max 102 (L+1)) (gh t g a L bad)/\((gh t g a L bad).bad=false->(gh t g a L bad).L=L)
 | g,a,L,true,h0,h1,h2,_=>by
  rw[pk]
  exact⟨⟨h0,h1,by show L<=L+1;omega,by show L+1<=max 102 (L+1);omega⟩,λ h=>by cases h⟩
 | 0,a,L,false,h0,h1,h2,_=>⟨⟨h0,h1,by show L<=L+1;omega,by show L+1<=max 102 (L+1);omega⟩,λ h=>by cases h⟩
 | g+1,a,L,false,h0,h1,h2,h3=>by
  have hd:L+(g:Int)+1<=60:=by have:=h3 rfl;omega
  have OI:∀ (X:RT) (s:List UInt8),0<=X.a->X.a<=(t.length:Int)->L+1<=X.L->X.L<=102->(X.bad=false->X.L=L+1)->Nt t X.L (X.L+1) (kx (gh t g) t s X.a X.L X.bad)\/(X.L=L+1/\Nt t X.L 102 (kx (gh t g) t s X.a X.L X.bad)):=by
   intro X s x0 x1 x2 x3 x4
   have p0:=kf t X.a s x0
   have p1:=kg t X.a s x0 x1
   unfold kx
   cases hx:X.bad with
   | true=>rw[KM,pk];exact .inl ⟨p0,p1,by show X.L<=X.L+1;omega,by show X.L+1<=X.L+1;omega⟩
   | false =>
    have e:=x4 hx
    obtain⟨⟨b0,b1,b2,b3⟩,_⟩:=Cn t g (O t X.a s) X.L (aF t X.a s false) p0 p1 (by omega) (λ _=>by omega)
    exact .inr ⟨e,b0,b1,b2,by omega⟩
  have OJ:∀ (X:RT) (s:List UInt8),0<=X.a->X.a<=(t.length:Int)->L+1<=X.L->(X.bad=false->X.L=L+1)->(kx (gh t g) t s X.a X.L X.bad).bad=false->(kx (gh t g) t s X.a X.L X.bad).L=L+1:=by
   intro X s x0 x1 x2 x4 hb
   have p0:=kf t X.a s x0
   have p1:=kg t X.a s x0 x1
   unfold kx at hb ⊢
   cases hx:X.bad with
   | true=>rw[hx,KM,pk] at hb;cases hb
   | false =>
    have e:=x4 hx
    rw[hx] at hb
    have:=(Cn t g (O t X.a s) X.L (aF t X.a s false) p0 p1 (by omega) (λ _=>by omega)).2 hb
    omega
  rw[KI]
  split
  .rename_i e;have:=dF h0 e 4 rfl h1;exact⟨⟨by show 0<=a+4;omega,this.1,by show L<=L;omega,by show L<=max 102 (L+1);omega⟩,λ _=>rfl⟩
  .split
   .rename_i e;have:=dF h0 e 4 rfl h1;exact⟨⟨by show 0<=a+4;omega,this.1,by show L<=L;omega,by show L<=max 102 (L+1);omega⟩,λ _=>rfl⟩
   .split
    .rename_i e
     have q:=(dF h0 e 7 rfl h1).1
     have b:=uc t (a+7) (L+1) false (by omega) q (by omega)
     exact⟨⟨by show (0:Int)<=((aS t (a+7) (L+1) false).a:Int);omega,b.1,by show L<=((aS t (a+7) (L+1) false).L:Int) - 1;omega,by show ((aS t (a+7) (L+1) false).L:Int) - 1<=max 102 (L+1);omega⟩,
      λ hb=>by have:=(ud t (a+7) (L+1) (by omega) hb).1;show ((aS t (a+7) (L+1) false).L:Int) - 1=L;omega⟩
    .split
     .rename_i e
      have q:=(dF h0 e 1 rfl h1).1
      have b:=Wm t a h0 q
      have n:=(G8 t a (L+1) h0 (by omega)).a
      exact⟨⟨by show (0:Int)<=((bP t a.toNat (L+1).toNat).a:Int);omega,by show ((bP t a.toNat (L+1).toNat).a:Int)<=_;omega,by show L<=L;omega,by show L<=max 102 (L+1);omega⟩,λ _=>rfl⟩
     .split
      .rename_i e
       have q:=(dF h0 e 1 rfl h1).1
       obtain⟨⟨x0,x1,x2,x3⟩,x4⟩:=Cn t g (a+1) (L+1) false (by omega) q (by omega) (λ _=>by omega)
       dsimp only
       generalize gh t g (a+1) (L+1) false=X at *
       have Y:=OI X [59,32] x0 x1 x2 (by omega) x4
       have Z:=OJ X [59,32] x0 x1 x2 x4
       generalize kx (gh t g) t [59,32] X.a X.L X.bad=V at *
       have y0:0<=V.a:=by rcases Y with Y|⟨_,Y⟩<;>exact Y.a0
       have y1:V.a<=(t.length:Int):=by rcases Y with Y|⟨_,Y⟩<;>exact Y.a
       have y2:L+1<=V.L:=by rcases Y with Y|⟨_,Y⟩<;>have:=Y.lo<;>omega
       have y3:V.L<=103:=by rcases Y with Y|⟨_,Y⟩<;>have:=Y.hi<;>omega
       exact⟨⟨kf t _ _ y0,kg t _ _ y0 y1,by show L<=V.L - 1;omega,by show V.L - 1<=max 102 (L+1);omega⟩,λ hb=>by have:=Z (wW hb).1;show V.L - 1=L;omega⟩
      .split
       .rename_i e
        have q:=(dF h0 e 3 rfl h1).1
        have b:=uc t (a+3) (L+1) false (by omega) q (by omega)
        have c4:(gH t (a+3) (L+1)).bad=false->(gH t (a+3) (L+1)).L=L+1:=λ hb=>(ud t (a+3) (L+1) (by omega) hb).1
        have c0:0<=(gH t (a+3) (L+1)).a:=by show (0:Int)<=((aS t (a+3) (L+1) false).a:Int);omega
        have c1:(gH t (a+3) (L+1)).a<=(t.length:Int):=b.1
        have c2:L+1<=(gH t (a+3) (L+1)).L:=b.2.1
        have c3:(gH t (a+3) (L+1)).L<=101:=by show ((aS t (a+3) (L+1) false).L:Int)<=101;omega
        dsimp only
        generalize gH t (a+3) (L+1)=C at *
        have Y:=OI C [32,116,104,101,110,32] c0 c1 c2 (by omega) c4
        have Z:=OJ C [32,116,104,101,110,32] c0 c1 c2 c4
        generalize kx (gh t g) t [32,116,104,101,110,32] C.a C.L C.bad=X at *
        have x0:0<=X.a:=by rcases Y with Y|⟨_,Y⟩<;>exact Y.a0
        have x1:X.a<=(t.length:Int):=by rcases Y with Y|⟨_,Y⟩<;>exact Y.a
        have x2:L+1<=X.L:=by rcases Y with Y|⟨_,Y⟩<;>have:=Y.lo<;>omega
        have x3:X.L<=102:=by rcases Y with Y|⟨_,Y⟩<;>have:=Y.hi<;>omega
        have Y':=OI X [32,101,108,115,101,32] x0 x1 x2 x3 Z
        have Z':=OJ X [32,101,108,115,101,32] x0 x1 x2 Z
        generalize kx (gh t g) t [32,101,108,115,101,32] X.a X.L X.bad=V at *
        have y0:0<=V.a:=by rcases Y' with Y|⟨_,Y⟩<;>exact Y.a0
        have y1:V.a<=(t.length:Int):=by rcases Y' with Y|⟨_,Y⟩<;>exact Y.a
        have y2:L+1<=V.L:=by rcases Y' with Y|⟨_,Y⟩<;>have:=Y.lo<;>omega
        have y3:V.L<=103:=by rcases Y' with Y|⟨_,Y⟩<;>have:=Y.hi<;>omega
        exact⟨⟨kf t _ _ y0,kg t _ _ y0 y1,by show L<=V.L - 1;omega,by show V.L - 1<=max 102 (L+1);omega⟩,λ hb=>by have:=Z' (wW hb).1;show V.L - 1=L;omega⟩
       .split
        .rename_i e
         have q:=(dF h0 e 6 rfl h1).1
         have b:=uc t (a+6) (L+1) false (by omega) q (by omega)
         have c4:(gH t (a+6) (L+1)).bad=false->(gH t (a+6) (L+1)).L=L+1:=λ hb=>(ud t (a+6) (L+1) (by omega) hb).1
         have c0:0<=(gH t (a+6) (L+1)).a:=by show (0:Int)<=((aS t (a+6) (L+1) false).a:Int);omega
         have c1:(gH t (a+6) (L+1)).a<=(t.length:Int):=b.1
         have c2:L+1<=(gH t (a+6) (L+1)).L:=b.2.1
         have c3:(gH t (a+6) (L+1)).L<=101:=by show ((aS t (a+6) (L+1) false).L:Int)<=101;omega
         dsimp only
         generalize gH t (a+6) (L+1)=C at *
         have Y:=OI C [32,100,111,32] c0 c1 c2 (by omega) c4
         have Z:=OJ C [32,100,111,32] c0 c1 c2 c4
         generalize kx (gh t g) t [32,100,111,32] C.a C.L C.bad=V at *
         have y0:0<=V.a:=by rcases Y with Y|⟨_,Y⟩<;>exact Y.a0
         have y1:V.a<=(t.length:Int):=by rcases Y with Y|⟨_,Y⟩<;>exact Y.a
         have y2:L+1<=V.L:=by rcases Y with Y|⟨_,Y⟩<;>have:=Y.lo<;>omega
         have y3:V.L<=103:=by rcases Y with Y|⟨_,Y⟩<;>have:=Y.hi<;>omega
         exact⟨⟨kf t _ _ y0,kg t _ _ y0 y1,by show L<=V.L - 1;omega,by show V.L - 1<=max 102 (L+1);omega⟩,λ hb=>by have:=Z (wW hb).1;show V.L - 1=L;omega⟩
        .exact⟨⟨h0,h1,by show L<=L;omega,by show L<=max 102 (L+1);omega⟩,λ h=>by cases h⟩
theorem CD(t:List UInt8)(a L:Int)(bad:Bool)(h0:0<=a)(h1:a<=(t.length:Int))(h2:0<=L):Nt t L (max 102 (L+1)) (PR t a L bad)/\((PR t a L bad).bad=false->(PR t a L bad).L=L):=by
 by_cases h:L<=60
 .exact Cn t _ a L bad h0 h1 h2 (λ _=>by omega)
 .rw[KQ t a L bad (.inr (by omega))]
  exact⟨⟨h0,h1,by show L<=L+1;omega,by show L+1<=max 102 (L+1);omega⟩,λ h=>by cases h⟩
theorem WU(t s:List UInt8)(a L:Int)(bad:Bool)(h0:0<=a)(h1:a<=(t.length:Int))(h2:0<=L):Nt t L (max 102 (L+1)) (PA t s a L bad)/\((PA t s a L bad).bad=false->(PA t s a L bad).L=L) :=
 CD t _ L _ (kf t a s h0) (kg t a s h0 h1) h2
theorem Kv(t s:List UInt8)(g:Nat)(x:RT)(h:x.bad=false->(60 - x.L).toNat=g):kx (gh t g) t s x.a x.L x.bad=PB t s x:=by
 unfold kx PB PA PR
 cases hx:x.bad with
 | true=>rw[KM,pk,pk]
 | false=>rw[h hx]
theorem Be(t:List UInt8)(a L:Int)(h0:0<=a)(h1:a<=(t.length:Int))(h2:0<=L)(h3:¬ 60<L+1):PR t a L false =
  if aE t a.toNat [115,107,105,112]=true then ⟨ai.mk 1 0 zX [],a+4,L,false⟩ else
  if aE t a.toNat [102,97,105,108]=true then ⟨ai.mk 2 0 zX [],a+4,L,false⟩ else
  if aE t a.toNat [97,115,115,101,114,116,32]=true then ⟨ai.mk 4 0 (aS t (a+7) (L+1) false).e [],((aS t (a+7) (L+1) false).a:Int),((aS t (a+7) (L+1) false).L:Int) - 1,(aS t (a+7) (L+1) false).bad⟩ else
  if aE t a.toNat [97]=true then ⟨ai.mk 3 (bP t a.toNat (L+1).toNat).e.al zX [],((bP t a.toNat (L+1).toNat).a:Int),L,(bP t a.toNat (L+1).toNat).bad⟩ else
  if aE t a.toNat [123]=true then Cs t (PR t (a+1) (L+1) false) (PB t [59,32] (PR t (a+1) (L+1) false)) else
  if aE t a.toNat [105,102,32]=true then QT t (aS t (a+3) (L+1) false).e (PB t [32,116,104,101,110,32] (gH t (a+3) (L+1))) (PB t [32,101,108,115,101,32] (PB t [32,116,104,101,110,32] (gH t (a+3) (L+1)))) else
  if aE t a.toNat [119,104,105,108,101,32]=true then DF t (aS t (a+6) (L+1) false).e (PB t [32,100,111,32] (gH t (a+6) (L+1))) else
  ⟨zQ,a,L,true⟩:=by
 obtain⟨g,hg⟩:∃ g:Nat,(60 - L).toNat=g+1:=⟨(59 - L).toNat,by omega⟩
 have QE:(60 - (L+1)).toNat=g:=by omega
 unfold PR
 rw[hg,KI,QE]
 have e1:aE t a.toNat [123]=true->kx (gh t g) t [59,32] (gh t g (a+1) (L+1) false).a (gh t g (a+1) (L+1) false).L (gh t g (a+1) (L+1) false).bad=PB t [59,32] (gh t g (a+1) (L+1) false):=λ e=>by
  have q:=(dF h0 e 1 rfl h1).1
  have b:=Cn t g (a+1) (L+1) false (by omega) q (by omega) (λ _=>by omega)
  exact Kv t [59,32] g _ (λ hb=>by rw[b.2 hb];exact QE)
 have e0:kx (gh t g) t [32,116,104,101,110,32] (gH t (a+3) (L+1)).a (gH t (a+3) (L+1)).L (gH t (a+3) (L+1)).bad=PB t [32,116,104,101,110,32] (gH t (a+3) (L+1)) :=
  Kv t [32,116,104,101,110,32] g _ (λ hb=>by rw[show (gH t (a+3) (L+1)).L=L+1 from (ud t (a+3) (L+1) (by omega) hb).1];exact QE)
 have e2:aE t a.toNat [105,102,32]=true->kx (gh t g) t [32,101,108,115,101,32] (PB t [32,116,104,101,110,32] (gH t (a+3) (L+1))).a (PB t [32,116,104,101,110,32] (gH t (a+3) (L+1))).L (PB t [32,116,104,101,110,32] (gH t (a+3) (L+1))).bad=PB t [32,101,108,115,101,32] (PB t [32,116,104,101,110,32] (gH t (a+3) (L+1))):=λ e=>by
  have q:=(dF h0 e 3 rfl h1).1
  have b:=uc t (a+3) (L+1) false (by omega) q (by omega)
  refine Kv t [32,101,108,115,101,32] g _ (λ hb=>?_)
  cases hc:(gH t (a+3) (L+1)).bad with
  | true =>
   unfold PB PA at hb
   rw[hc,KM,KQ t _ _ true (.inl rfl)] at hb
   cases hb
  | false =>
   have hd:(gH t (a+3) (L+1)).L=L+1:=(ud t (a+3) (L+1) (by omega) hc).1
   have:=(WU t [32,116,104,101,110,32] (gH t (a+3) (L+1)).a (gH t (a+3) (L+1)).L (gH t (a+3) (L+1)).bad (by show (0:Int)<=((aS t (a+3) (L+1) false).a:Int);omega) b.1 (by omega)).2 hb
   show (60 - (PA t [32,116,104,101,110,32] (gH t (a+3) (L+1)).a (gH t (a+3) (L+1)).L (gH t (a+3) (L+1)).bad).L).toNat=g
   omega
 have e3:kx (gh t g) t [32,100,111,32] (gH t (a+6) (L+1)).a (gH t (a+6) (L+1)).L (gH t (a+6) (L+1)).bad=PB t [32,100,111,32] (gH t (a+6) (L+1)) :=
  Kv t [32,100,111,32] g _ (λ hb=>by rw[show (gH t (a+6) (L+1)).L=L+1 from (ud t (a+6) (L+1) (by omega) hb).1];exact QE)
 dsimp only
 split
 .rfl
 .split
  .rfl
  .split
   .rfl
   .split
    .rfl
    .split
     .rename_i e;rw[e1 e]
     .split
      .rename_i e;rw[e0,e2 e]
      .rw[e3]
theorem WK(t:List UInt8)(a:Int)(p:List UInt8)(h0:0<=a)(h:(p.length:Int)<=(t.length:Int) - a):decide ((t.take (Int.toNat (a+(p.length:Int)))).drop (Int.toNat a)=p)=aE t a.toNat p:=by
 rw[a4K,show (a+(p.length:Int)).toNat - a.toNat=p.length by omega]
 unfold aE
 rw[show decide (p.length<=(t.drop a.toNat).length)=true from a2v (by rw[a2H];omega)]
 rfl
theorem Tx(t:List UInt8)(a:Int)(p:List UInt8)(h0:0<=a)(h1:a<=(t.length:Int))(h:(t.length:Int) - a<(p.length:Int)):aE t a.toNat p=false:=by
 unfold aE
 rw[show decide (p.length<=(t.drop a.toNat).length)=false from a1P (by rw[a2H];omega)]
 rfl
def fE:gj:=⟨l8,[[.d .str, .d (.int .i64), .d (.int .i64), .d .bool]],[.b 0, .v .str],[[.str,(.int .i64),(.int .i64), .bool]],λ (p:List UInt8) (t:List UInt8) (a:Int) (L:Int) (bad:Bool)=>⟨(some (0<=a/\a<=(t.length:Int)/\t.length<=10000/\p.length<=10/\1<=p.length),[⟨.bool,aE t a.toNat p⟩],[[⟨.str,t⟩,⟨(.int .i64),a⟩,⟨(.int .i64),L⟩,⟨.bool,bad⟩]])⟩⟩
def qw(p:List UInt8)(t:List UInt8)(a:Int)(L:Int)(bad:Bool):Nat->aW:=λ _ => .none
theorem xK(p:List UInt8)(t:List UInt8)(a:Int)(L:Int)(bad:Bool):dd (dr [] [] [] [] []) (aD eC) (qw p t a L bad) 0 (ij (dr [] [] [] [] []) eC [[.d .str, .d (.int .i64), .d (.int .i64), .d .bool]] λ r ds=>bR r [⟨.bool,aE t a.toNat p⟩]/\jl ds [[⟨.str,t⟩,⟨(.int .i64),a⟩,⟨(.int .i64),L⟩,⟨.bool,bad⟩]]) (cv eC [.box 0, .val ⟨.str,p⟩] [[.d .str, .d (.int .i64), .d (.int .i64), .d .bool]] [[⟨.str,t⟩,⟨(.int .i64),a⟩,⟨(.int .i64),L⟩,⟨.bool,bad⟩]]) =
 ((ah (((t.length:Int)) - a)/\(((decide (((p.length:Int))<=(((t.length:Int)) - a)))=true ->
 (ah (a+((p.length:Int)))/\(eM a (a+((p.length:Int))) t.length/\(t.length<=140737488355328 ->
 (ah ((t.length:Int)) ->
 (ah a ->
 (ah ((p.length:Int)) ->
 (t.length<=140737488355328 ->
 (ah a ->
 (ah a ->
 (ah ((p.length:Int)) ->
 ((decide (((t.take (Int.toNat (a+((p.length:Int))))).drop (Int.toNat a))=p))=(aE t a.toNat p)/\((t=t/\(a=a/\(L=L/\bad=bad)))/\True)))))))))))))/\((decide (((p.length:Int))<=(((t.length:Int)) - a)))=(!true) ->
 (t.length<=140737488355328 ->
 (ah ((t.length:Int)) ->
 (ah a ->
 (ah ((p.length:Int)) ->
 (false=(aE t a.toNat p)/\((t=t/\(a=a/\(L=L/\bad=bad)))/\True)))))))))):=by kernel_rfl
theorem xp(hE:aR [])(hO:ja [])(hM:iu [])(hS:gO []):gj.Good fE:=by
 refine⟨aB p8 rfl (by decide),?_⟩
 show ∀ (p:List UInt8) (t:List UInt8) (a:Int) (L:Int) (bad:Bool),(0<=a/\a<=(t.length:Int)/\t.length<=10000/\p.length<=10/\1<=p.length)->o5 prog l8 [[.d .str, .d (.int .i64), .d (.int .i64), .d .bool]] [.box 0, .val ⟨.str,p⟩] [[⟨.str,t⟩,⟨(.int .i64),a⟩,⟨(.int .i64),L⟩,⟨.bool,bad⟩]] [⟨.bool,aE t a.toNat p⟩] [[⟨.str,t⟩,⟨(.int .i64),a⟩,⟨(.int .i64),L⟩,⟨.bool,bad⟩]]
 intro p t a L bad hp
 refine fm (own:=[]) (wr:=[]) (cl:=[]) (ro:=[]) hE hO hM hS p8 vF (qw p t a L bad) rfl rfl ?_
 rewrite [xK p t a L bad]
 obtain⟨h0,h1,h2,h3,h4⟩:=hp
 by_cases hc:(p.length:Int)<=(t.length:Int) - a
 .have e:=WK t a p h0 hc
  have k:=λ h=>(dF (t:=t) (s:=p) h0 h _ rfl h1)
  have n1:decide (((t.length:Int) - a)<(p.length:Int))=false:=a1P (by omega)
  have n2:decide ((p.length:Int)<=((t.length:Int) - a))=true:=a2v hc
  rcases a2q (aE t a.toNat p) with b|b
  .have q:=a2d (e.trans b)
   have k:=k b
   simp only[e,q,n1,n2,b,k.2,aF,a1Y,a1V,a1Q,a1O,a1I,a1G,a1J,a1K,a1R,a1W,a1H,a1Z,a1E,ah,aG,bo,a2V,a3b,a2U,a2S,a2T,a2R,a2Y,AR]
   repeat' (first|intro _|apply And.intro)
   all_goals first|exact True.intro|omega|with_reducible rfl|decide|(simp only[eM];omega)
  .have q:=a3e (e.trans b)
   simp only[e,q,n1,n2,b,pW t a p b,aF,a1Y,a1V,a1Q,a1O,a1I,a1G,a1J,a1K,a1R,a1W,a1H,a1Z,a1E,ah,aG,bo,a2V,a3b,a2U,a2S,a2T,a2R,a2Y,AR]
   repeat' (first|intro _|apply And.intro)
   all_goals first|exact True.intro|omega|with_reducible rfl|decide|(simp only[eM];omega)
 .have b:=Tx t a p h0 h1 (by omega)
  have n1:decide (((t.length:Int) - a)<(p.length:Int))=true:=a2v (by omega)
  have n2:decide ((p.length:Int)<=((t.length:Int) - a))=false:=a1P hc
  simp only[n1,n2,b,pW t a p b,aF,a1Y,a1V,a1Q,a1O,a1I,a1G,a1J,a1K,a1R,a1W,a1H,a1Z,a1E,ah,aG,bo,a2V,a3b,a2U,a2S,a2T,a2R,a2Y,AR]
  repeat' (first|intro _|apply And.intro)
  all_goals first|exact True.intro|omega|with_reducible rfl|decide|(simp only[eM];omega)
theorem vr:gj.Good fE:=xp trivial trivial trivial trivial
def cX:gj:=⟨mc,[[.d .str, .d (.int .i64), .d (.int .i64), .d .bool]],[.b 0, .v .str],[[.str,(.int .i64),(.int .i64), .bool]],λ (p:List UInt8) (t:List UInt8) (a:Int) (L:Int) (bad:Bool)=>⟨(some (0<=a/\a<=(t.length:Int)/\t.length<=10000/\p.length<=10/\1<=p.length),[],[[⟨.str,t⟩,⟨(.int .i64),O t a p⟩,⟨(.int .i64),L⟩,⟨.bool,aF t a p bad⟩]])⟩⟩
def qB(p:List UInt8)(t:List UInt8)(a:Int)(L:Int)(bad:Bool):Nat->aW:=λ _ => .none
theorem xP(p:List UInt8)(t:List UInt8)(a:Int)(L:Int)(bad:Bool):dd (dr [] [] [] [] []) (aD eI) (qB p t a L bad) 0 (ij (dr [] [] [] [] []) eI [[.d .str, .d (.int .i64), .d (.int .i64), .d .bool]] λ r ds=>bR r []/\jl ds [[⟨.str,t⟩,⟨(.int .i64),O t a p⟩,⟨(.int .i64),L⟩,⟨.bool,aF t a p bad⟩]]) (cv eI [.box 0, .val ⟨.str,p⟩] [[.d .str, .d (.int .i64), .d (.int .i64), .d .bool]] [[⟨.str,t⟩,⟨(.int .i64),a⟩,⟨(.int .i64),L⟩,⟨.bool,bad⟩]]) =
 ((ah (((t.length:Int)) - a)/\(((decide ((((t.length:Int)) - a)<((p.length:Int))))=false ->
 (ah (a+((p.length:Int)))/\(eM a (a+((p.length:Int))) t.length/\(t.length<=140737488355328 ->
 (ah ((t.length:Int)) ->
 (ah a ->
 (ah ((p.length:Int)) ->
 (t.length<=140737488355328 ->
 (ah a ->
 (ah a ->
 (ah ((p.length:Int)) ->
 (((!decide (((t.take (Int.toNat (a+((p.length:Int))))).drop (Int.toNat a))=p))=true ->
 (True/\((t=t/\(a=(O t a p)/\(L=L/\true=(aF t a p bad))))/\True)))/\((!decide (((t.take (Int.toNat (a+((p.length:Int))))).drop (Int.toNat a))=p))=false ->
 (ah a ->
 (ah ((p.length:Int)) ->
 (ah (a+((p.length:Int)))/\(True/\((t=t/\((a+((p.length:Int)))=(O t a p)/\(L=L/\bad=(aF t a p bad))))/\True))))))))))))))))))/\((decide ((((t.length:Int)) - a)<((p.length:Int))))=(!false) ->
 (t.length<=140737488355328 ->
 (ah ((t.length:Int)) ->
 (ah a ->
 (ah ((p.length:Int)) ->
 ((true=true ->
 (True/\((t=t/\(a=(O t a p)/\(L=L/\true=(aF t a p bad))))/\True)))/\(true=false ->
 (ah a ->
 (ah ((p.length:Int)) ->
 (ah (a+((p.length:Int)))/\(True/\((t=t/\((a+((p.length:Int)))=(O t a p)/\(L=L/\bad=(aF t a p bad))))/\True))))))))))))))):=by kernel_rfl
theorem xw(hE:aR [])(hO:ja [])(hM:iu [])(hS:gO []):gj.Good cX:=by
 refine⟨aB qb rfl (by decide),?_⟩
 show ∀ (p:List UInt8) (t:List UInt8) (a:Int) (L:Int) (bad:Bool),(0<=a/\a<=(t.length:Int)/\t.length<=10000/\p.length<=10/\1<=p.length)->o5 prog mc [[.d .str, .d (.int .i64), .d (.int .i64), .d .bool]] [.box 0, .val ⟨.str,p⟩] [[⟨.str,t⟩,⟨(.int .i64),a⟩,⟨(.int .i64),L⟩,⟨.bool,bad⟩]] [] [[⟨.str,t⟩,⟨(.int .i64),O t a p⟩,⟨(.int .i64),L⟩,⟨.bool,aF t a p bad⟩]]
 intro p t a L bad hp
 refine fm (own:=[]) (wr:=[]) (cl:=[]) (ro:=[]) hE hO hM hS qb vK (qB p t a L bad) rfl rfl ?_
 rewrite [xP p t a L bad]
 obtain⟨h0,h1,h2,h3,h4⟩:=hp
 by_cases hc:(p.length:Int)<=(t.length:Int) - a
 .have e:=WK t a p h0 hc
  have k:=λ h=>(dF (t:=t) (s:=p) h0 h _ rfl h1)
  have n1:decide (((t.length:Int) - a)<(p.length:Int))=false:=a1P (by omega)
  have n2:decide ((p.length:Int)<=((t.length:Int) - a))=true:=a2v hc
  rcases a2q (aE t a.toNat p) with b|b
  .have q:=a2d (e.trans b)
   have k:=k b
   simp only[e,q,n1,n2,b,k.2,aF,a1Y,a1V,a1Q,a1O,a1I,a1G,a1J,a1K,a1R,a1W,a1H,a1Z,a1E,ah,aG,bo,a2V,a3b,a2U,a2S,a2T,a2R,a2Y,AR]
   repeat' (first|intro _|apply And.intro)
   all_goals first|exact True.intro|omega|with_reducible rfl|decide|(simp only[eM];omega)
  .have q:=a3e (e.trans b)
   simp only[e,q,n1,n2,b,pW t a p b,aF,a1Y,a1V,a1Q,a1O,a1I,a1G,a1J,a1K,a1R,a1W,a1H,a1Z,a1E,ah,aG,bo,a2V,a3b,a2U,a2S,a2T,a2R,a2Y,AR]
   repeat' (first|intro _|apply And.intro)
   all_goals first|exact True.intro|omega|with_reducible rfl|decide|(simp only[eM];omega)
 .have b:=Tx t a p h0 h1 (by omega)
  have n1:decide (((t.length:Int) - a)<(p.length:Int))=true:=a2v (by omega)
  have n2:decide ((p.length:Int)<=((t.length:Int) - a))=false:=a1P hc
  simp only[n1,n2,b,pW t a p b,aF,a1Y,a1V,a1Q,a1O,a1I,a1G,a1J,a1K,a1R,a1W,a1H,a1Z,a1E,ah,aG,bo,a2V,a3b,a2U,a2S,a2T,a2R,a2Y,AR]
  repeat' (first|intro _|apply And.intro)
  all_goals first|exact True.intro|omega|with_reducible rfl|decide|(simp only[eM];omega)
theorem nR:gj.Good cX:=xw trivial trivial trivial trivial
structure NS(t:List UInt8)(a L:Int)(bad:Bool)(k:Nat):Prop where
 h0:0<=a
 h1:a<=(t.length:Int)
 hl:t.length<=10000
 d0:0<=L
 d1:L+1<=60
 b:bad=false
 no:∀ i,i<k->aE t a.toNat ([[115,107,105,112],[102,97,105,108],[97,115,115,101,114,116,32],[97],[123],[105,102,32],[119,104,105,108,101,32]].getD i [])=false
theorem NS.nx{t:List UInt8}{a L:Int}{bad:Bool}{k:Nat}(h:NS t a L bad k){w:List UInt8}(e:aE t a.toNat w=false)(hw:[[115,107,105,112],[102,97,105,108],[97,115,115,101,114,116,32],[97],[123],[105,102,32],[119,104,105,108,101,32]].getD k []=w):NS t a L bad (k+1) :=
 ⟨h.h0,h.h1,h.hl,h.d0,h.d1,h.b,λ i hi=>(a2B i k).elim (h.no i) λ g=>by
  have:i=k:=by omega
  subst this;rw[hw];exact e⟩
theorem NS.nt{t:List UInt8}{a L:Int}{bad:Bool}{k:Nat}(h:NS t a L bad k)(i:Nat)(hi:i<k){w:List UInt8}(hw:[[115,107,105,112],[102,97,105,108],[97,115,115,101,114,116,32],[97],[123],[105,102,32],[119,104,105,108,101,32]].getD i []=w):¬ aE t a.toNat w=true:=by
 have:=h.no i hi
 rw[hw] at this
 rw[this];decide
theorem NS.nj{t:List UInt8}{a L:Int}{bad:Bool}{k:Nat}(h:NS t a L bad k)(w:List UInt8):0<=O t a w/\O t a w<=(t.length:Int):=⟨kf t a w h.h0,kg t a w h.h0 h.h1⟩
theorem NS.wq{t:List UInt8}{a L:Int}{bad:Bool}{k:Nat}(h:NS t a L bad k){w:List UInt8}(e:aE t a.toNat w=true):aF t a w bad=false:=by unfold aF;rw[e];exact h.b
theorem NS.ex{t:List UInt8}{a L:Int}{bad:Bool}{k:Nat}(h:NS t a L bad k)(w:List UInt8)(b:Bool):((aS t (O t a w) (L+1) b).a:Int)<=(t.length:Int)/\L+1<=((aS t (O t a w) (L+1) b).L:Int)/\((aS t (O t a w) (L+1) b).L:Int)<=101:=by
 have:=uc t (O t a w) (L+1) b (h.nj w).1 (h.nj w).2 (by have:=h.d0;omega)
 have:=h.d1
 omega
theorem NS.w0{t:List UInt8}{a L:Int}{bad:Bool}(h:NS t a L bad 0)(e:aE t a.toNat [115,107,105,112]=true):PR t a L bad=⟨ai.mk 1 0 zX [],O t a [115,107,105,112],L,aF t a [115,107,105,112] bad⟩:=by
 rw[h.wq e,(dF h.h0 e 4 rfl h.h1).2,h.b,Be t a L h.h0 h.h1 h.d0 (by have:=h.d1;omega),a1S e]
theorem NS.w1{t:List UInt8}{a L:Int}{bad:Bool}(h:NS t a L bad 1)(e:aE t a.toNat [102,97,105,108]=true):PR t a L bad=⟨ai.mk 2 0 zX [],O t a [102,97,105,108],L,aF t a [102,97,105,108] bad⟩:=by
 rw[h.wq e,(dF h.h0 e 4 rfl h.h1).2,h.b,Be t a L h.h0 h.h1 h.d0 (by have:=h.d1;omega),a1B (h.nt 0 (by decide) (w:=[115,107,105,112]) rfl),a1S e]
theorem NS.w2{t:List UInt8}{a L:Int}{bad:Bool}(h:NS t a L bad 2)(e:aE t a.toNat [97,115,115,101,114,116,32]=true):PR t a L bad=⟨ai.mk 4 0 (aS t (O t a [97,115,115,101,114,116,32]) (L+1) (aF t a [97,115,115,101,114,116,32] bad)).e [],((aS t (O t a [97,115,115,101,114,116,32]) (L+1) (aF t a [97,115,115,101,114,116,32] bad)).a:Int),((aS t (O t a [97,115,115,101,114,116,32]) (L+1) (aF t a [97,115,115,101,114,116,32] bad)).L:Int) - 1,(aS t (O t a [97,115,115,101,114,116,32]) (L+1) (aF t a [97,115,115,101,114,116,32] bad)).bad⟩:=by
 rw[h.wq e,(dF h.h0 e 7 rfl h.h1).2,h.b,Be t a L h.h0 h.h1 h.d0 (by have:=h.d1;omega),a1B (h.nt 0 (by decide) (w:=[115,107,105,112]) rfl),a1B (h.nt 1 (by decide) (w:=[102,97,105,108]) rfl),a1S e]
theorem NS.w3{t:List UInt8}{a L:Int}{bad:Bool}(h:NS t a L bad 3)(e:aE t a.toNat [97]=true):PR t a L bad=⟨ai.mk 3 (bP t a.toNat (L+1).toNat).e.al zX [],((bP t a.toNat (L+1).toNat).a:Int),L,(bP t a.toNat (L+1).toNat).bad⟩:=by
 rw[h.b,Be t a L h.h0 h.h1 h.d0 (by have:=h.d1;omega),a1B (h.nt 0 (by decide) (w:=[115,107,105,112]) rfl),a1B (h.nt 1 (by decide) (w:=[102,97,105,108]) rfl),a1B (h.nt 2 (by decide) (w:=[97,115,115,101,114,116,32]) rfl),a1S e]
theorem NS.w4{t:List UInt8}{a L:Int}{bad:Bool}(h:NS t a L bad 4)(e:aE t a.toNat [123]=true):PR t a L bad=Cs t (PR t (O t a [123]) (L+1) (aF t a [123] bad)) (PB t [59,32] (PR t (O t a [123]) (L+1) (aF t a [123] bad))):=by
 rw[h.wq e,(dF h.h0 e 1 rfl h.h1).2,h.b,Be t a L h.h0 h.h1 h.d0 (by have:=h.d1;omega),a1B (h.nt 0 (by decide) (w:=[115,107,105,112]) rfl),a1B (h.nt 1 (by decide) (w:=[102,97,105,108]) rfl),a1B (h.nt 2 (by decide) (w:=[97,115,115,101,114,116,32]) rfl),a1B (h.nt 3 (by decide) (w:=[97]) rfl),a1S e]
theorem NS.end{t:List UInt8}{a L:Int}{bad:Bool}(h:NS t a L bad 7):PR t a L bad=⟨zQ,a,L,true⟩:=by
 rw[h.b,Be t a L h.h0 h.h1 h.d0 (by have:=h.d1;omega),a1B (h.nt 0 (by decide) (w:=[115,107,105,112]) rfl),a1B (h.nt 1 (by decide) (w:=[102,97,105,108]) rfl),a1B (h.nt 2 (by decide) (w:=[97,115,115,101,114,116,32]) rfl),a1B (h.nt 3 (by decide) (w:=[97]) rfl),a1B (h.nt 4 (by decide) (w:=[123]) rfl),a1B (h.nt 5 (by decide) (w:=[105,102,32]) rfl),a1B (h.nt 6 (by decide) (w:=[119,104,105,108,101,32]) rfl)]
structure CS(t:List UInt8)(a L:Int)(bad:Bool)(k:Nat)(w:List UInt8)(C:RS):Prop where
 ns:NS t a L bad k
 e:aE t a.toNat w=true
 c:C=aS t (O t a w) (L+1) (aF t a w bad)
 c1:(C.a:Int)<=(t.length:Int)
 c2:L+1<=(C.L:Int)
 c3:(C.L:Int)<=101
theorem NS.cs{t:List UInt8}{a L:Int}{bad:Bool}{k:Nat}(h:NS t a L bad k){w:List UInt8}(e:aE t a.toNat w=true):CS t a L bad k w (aS t (O t a w) (L+1) (aF t a w bad)):=⟨h,e,rfl,(h.ex w _).1,(h.ex w _).2.1,(h.ex w _).2.2⟩
theorem CS.nj{t:List UInt8}{a L:Int}{bad:Bool}{k:Nat}{w:List UInt8}{C:RS}(h:CS t a L bad k w C)(v:List UInt8):0<=O t (C.a:Int) v/\O t (C.a:Int) v<=(t.length:Int):=⟨kf t _ v (by omega),kg t _ v (by omega) h.c1⟩
def xC(t:List UInt8)(C:RS)(w:List UInt8):RT:=PR t (O t (C.a:Int) w) (C.L:Int) (aF t (C.a:Int) w C.bad)
def xX(t:List UInt8)(X:RT)(w:List UInt8):RT:=PR t (O t X.a w) X.L (aF t X.a w X.bad)
theorem CS.w5{t:List UInt8}{a L:Int}{bad:Bool}{C:RS}(h:CS t a L bad 5 [105,102,32] C):PR t a L bad=QT t C.e (xC t C [32,116,104,101,110,32]) (xX t (xC t C [32,116,104,101,110,32]) [32,101,108,115,101,32]):=by
 have e:=h.e
 have c:=h.c
 rw[h.ns.wq e,(dF h.ns.h0 e 3 rfl h.ns.h1).2] at c
 rw[c,h.ns.b,Be t a L h.ns.h0 h.ns.h1 h.ns.d0 (by have:=h.ns.d1;omega),a1B (h.ns.nt 0 (by decide) (w:=[115,107,105,112]) rfl),a1B (h.ns.nt 1 (by decide) (w:=[102,97,105,108]) rfl),a1B (h.ns.nt 2 (by decide) (w:=[97,115,115,101,114,116,32]) rfl),a1B (h.ns.nt 3 (by decide) (w:=[97]) rfl),a1B (h.ns.nt 4 (by decide) (w:=[123]) rfl),a1S e]
 rfl
theorem CS.w6{t:List UInt8}{a L:Int}{bad:Bool}{C:RS}(h:CS t a L bad 6 [119,104,105,108,101,32] C):PR t a L bad=DF t C.e (xC t C [32,100,111,32]):=by
 have e:=h.e
 have c:=h.c
 rw[h.ns.wq e,(dF h.ns.h0 e 6 rfl h.ns.h1).2] at c
 rw[c,h.ns.b,Be t a L h.ns.h0 h.ns.h1 h.ns.d0 (by have:=h.ns.d1;omega),a1B (h.ns.nt 0 (by decide) (w:=[115,107,105,112]) rfl),a1B (h.ns.nt 1 (by decide) (w:=[102,97,105,108]) rfl),a1B (h.ns.nt 2 (by decide) (w:=[97,115,115,101,114,116,32]) rfl),a1B (h.ns.nt 3 (by decide) (w:=[97]) rfl),a1B (h.ns.nt 4 (by decide) (w:=[123]) rfl),a1B (h.ns.nt 5 (by decide) (w:=[105,102,32]) rfl),a1S e]
 rfl
structure WS(t:List UInt8)(a L:Int)(bad:Bool)(C:RS)(X:RT):Prop where
 cs:CS t a L bad 6 [119,104,105,108,101,32] C
 x:X=xC t C [32,100,111,32]
 y:Nt t (C.L:Int) (max 102 ((C.L:Int)+1)) X
theorem CS.ws{t:List UInt8}{a L:Int}{bad:Bool}{C:RS}(h:CS t a L bad 6 [119,104,105,108,101,32] C):WS t a L bad C (PR t (O t (C.a:Int) [32,100,111,32]) (C.L:Int) (aF t (C.a:Int) [32,100,111,32] C.bad)) :=
 ⟨h,rfl,(CD t _ _ _ (h.nj _).1 (h.nj _).2 (by omega)).1⟩
theorem WS.p{t:List UInt8}{a L:Int}{bad:Bool}{C:RS}{X:RT}(h:WS t a L bad C X):PR t a L bad=DF t C.e X:=by rw[h.x];exact h.cs.w6
structure FH(t:List UInt8)(a L:Int)(bad:Bool):Prop where
 h0:0<=a
 h1:a<=(t.length:Int)
 d0:0<=L
 d1:L<=900
theorem FH.bn{t:List UInt8}{a L:Int}{bad:Bool}(h:FH t a L bad):L<=(PR t a L bad).L/\(PR t a L bad).L<=1000:=by
 have q:=(CD t a L bad h.h0 h.h1 h.d0).1
 have:=q.lo;have:=q.hi;have:=h.d1
 omega
theorem NS.pe{t:List UInt8}{a L:Int}{bad:Bool}{k:Nat}(h:NS t a L bad k):FH t a L bad:=⟨h.h0,h.h1,h.d0,by have:=h.d1;omega⟩
def e8(n:Nat):gj:=⟨l6,[[.d .str, .d (.int .i64), .d (.int .i64), .d .bool],[.d (.int .i64), .d (.int .i64), .d (.int .i64), .d (.int .i64), .o (.slice (.st .expr)), .o (.slice (.st .prog))]],[.b 0, .b 1, .v .str, .v .str, .v .str],[[.str,(.int .i64),(.int .i64), .bool],[(.int .i64),(.int .i64),(.int .i64),(.int .i64),(.slice (.st .expr)),(.slice (.st .prog))]],λ (f:List UInt8) (h:List UInt8) (z:List UInt8) (t:List UInt8) (a:Int) (L:Int) (bad:Bool) (k:Int) (nu:Int) (ck:Int) (cn:Int) (cs:List M) (ks:List ai)=>⟨(some (2 * (1001 - L).toNat+1<n/\0<=a/\a<=(t.length:Int)/\t.length<=10000/\0<=L/\L<=800/\f.length<=10/\1<=f.length/\h.length<=10/\1<=h.length/\z.length<=10/\1<=z.length),[],[[⟨.str,t⟩,⟨(.int .i64),O t (PR t (O t (PR t (O t a f) L (aF t a f bad)).a h) (PR t (O t a f) L (aF t a f bad)).L (aF t (PR t (O t a f) L (aF t a f bad)).a h (PR t (O t a f) L (aF t a f bad)).bad)).a z⟩,⟨(.int .i64),(PR t (O t (PR t (O t a f) L (aF t a f bad)).a h) (PR t (O t a f) L (aF t a f bad)).L (aF t (PR t (O t a f) L (aF t a f bad)).a h (PR t (O t a f) L (aF t a f bad)).bad)).L⟩,⟨.bool,aF t (PR t (O t (PR t (O t a f) L (aF t a f bad)).a h) (PR t (O t a f) L (aF t a f bad)).L (aF t (PR t (O t a f) L (aF t a f bad)).a h (PR t (O t a f) L (aF t a f bad)).bad)).a z (PR t (O t (PR t (O t a f) L (aF t a f bad)).a h) (PR t (O t a f) L (aF t a f bad)).L (aF t (PR t (O t a f) L (aF t a f bad)).a h (PR t (O t a f) L (aF t a f bad)).bad)).bad⟩],[⟨(.int .i64),k⟩,⟨(.int .i64),nu⟩,⟨(.int .i64),ck⟩,⟨(.int .i64),cn⟩,⟨(.slice (.st .expr)),cs⟩,⟨(.slice (.st .prog)),[(PR t (O t a f) L (aF t a f bad)).p,(PR t (O t (PR t (O t a f) L (aF t a f bad)).a h) (PR t (O t a f) L (aF t a f bad)).L (aF t (PR t (O t a f) L (aF t a f bad)).a h (PR t (O t a f) L (aF t a f bad)).bad)).p]⟩]])⟩⟩
def cO(n:Nat):gj:=⟨iF,[[.d .str, .d (.int .i64), .d (.int .i64), .d .bool]],[.b 0],[[.str,(.int .i64),(.int .i64), .bool]],λ (t:List UInt8) (a:Int) (L:Int) (bad:Bool)=>⟨(some (2 * (1001 - L).toNat<n/\0<=a/\a<=(t.length:Int)/\t.length<=10000/\0<=L/\L<=900),[⟨(.st .prog),(PR t a L bad).p⟩],[[⟨.str,t⟩,⟨(.int .i64),(PR t a L bad).a⟩,⟨(.int .i64),(PR t a L bad).L⟩,⟨.bool,(PR t a L bad).bad⟩]])⟩⟩
def hU:gj:=⟨iF,[[.d .str, .d (.int .i64), .d (.int .i64), .d .bool]],[.b 0],[[.str,(.int .i64),(.int .i64), .bool]],λ (t:List UInt8) (a:Int) (L:Int) (bad:Bool)=>⟨(some (0<=a/\a<=(t.length:Int)/\t.length<=10000/\0<=L/\L<=900),[⟨(.st .prog),(PR t a L bad).p⟩],[[⟨.str,t⟩,⟨(.int .i64),(PR t a L bad).a⟩,⟨(.int .i64),(PR t a L bad).L⟩,⟨.bool,(PR t a L bad).bad⟩]])⟩⟩
def qt(f:List UInt8)(h:List UInt8)(z:List UInt8)(t:List UInt8)(a:Int)(L:Int)(bad:Bool)(k:Int)(nu:Int)(ck:Int)(cn:Int)(cs:List M)(ks:List ai):Nat->aW:=λ _ => .none
theorem xH(n:Nat)(f:List UInt8)(h:List UInt8)(z:List UInt8)(t:List UInt8)(a:Int)(L:Int)(bad:Bool)(k:Int)(nu:Int)(ck:Int)(cn:Int)(cs:List M)(ks:List ai):dd (dr [] [] [] [16,21,28] [] [] [] [cX,cO n]) (aD ez) (qt f h z t a L bad k nu ck cn cs ks) 0 (ij (dr [] [] [] [16,21,28] [] [] [] [cX,cO n]) ez [[.d .str, .d (.int .i64), .d (.int .i64), .d .bool],[.d (.int .i64), .d (.int .i64), .d (.int .i64), .d (.int .i64), .o (.slice (.st .expr)), .o (.slice (.st .prog))]] λ r ds=>bR r []/\jl ds [[⟨.str,t⟩,⟨(.int .i64),O t (PR t (O t (PR t (O t a f) L (aF t a f bad)).a h) (PR t (O t a f) L (aF t a f bad)).L (aF t (PR t (O t a f) L (aF t a f bad)).a h (PR t (O t a f) L (aF t a f bad)).bad)).a z⟩,⟨(.int .i64),(PR t (O t (PR t (O t a f) L (aF t a f bad)).a h) (PR t (O t a f) L (aF t a f bad)).L (aF t (PR t (O t a f) L (aF t a f bad)).a h (PR t (O t a f) L (aF t a f bad)).bad)).L⟩,⟨.bool,aF t (PR t (O t (PR t (O t a f) L (aF t a f bad)).a h) (PR t (O t a f) L (aF t a f bad)).L (aF t (PR t (O t a f) L (aF t a f bad)).a h (PR t (O t a f) L (aF t a f bad)).bad)).a z (PR t (O t (PR t (O t a f) L (aF t a f bad)).a h) (PR t (O t a f) L (aF t a f bad)).L (aF t (PR t (O t a f) L (aF t a f bad)).a h (PR t (O t a f) L (aF t a f bad)).bad)).bad⟩],[⟨(.int .i64),k⟩,⟨(.int .i64),nu⟩,⟨(.int .i64),ck⟩,⟨(.int .i64),cn⟩,⟨(.slice (.st .expr)),cs⟩,⟨(.slice (.st .prog)),[(PR t (O t a f) L (aF t a f bad)).p,(PR t (O t (PR t (O t a f) L (aF t a f bad)).a h) (PR t (O t a f) L (aF t a f bad)).L (aF t (PR t (O t a f) L (aF t a f bad)).a h (PR t (O t a f) L (aF t a f bad)).bad)).p]⟩]]) (cv ez [.box 0, .box 1, .val ⟨.str,f⟩, .val ⟨.str,h⟩, .val ⟨.str,z⟩] [[.d .str, .d (.int .i64), .d (.int .i64), .d .bool],[.d (.int .i64), .d (.int .i64), .d (.int .i64), .d (.int .i64), .o (.slice (.st .expr)), .o (.slice (.st .prog))]] [[⟨.str,t⟩,⟨(.int .i64),a⟩,⟨(.int .i64),L⟩,⟨.bool,bad⟩],[⟨(.int .i64),k⟩,⟨(.int .i64),nu⟩,⟨(.int .i64),ck⟩,⟨(.int .i64),cn⟩,⟨(.slice (.st .expr)),cs⟩,⟨(.slice (.st .prog)),ks⟩]]) =
 (((0<=a/\a<=(t.length:Int)/\t.length<=10000/\f.length<=10/\1<=f.length)/\((2 * (1001 - L).toNat<n/\0<=(O t a f)/\(O t a f)<=(t.length:Int)/\t.length<=10000/\0<=L/\L<=900)/\((0<=((PR t (O t a f) L (aF t a f bad)).a)/\((PR t (O t a f) L (aF t a f bad)).a)<=(t.length:Int)/\t.length<=10000/\h.length<=10/\1<=h.length)/\((2 * (1001 - ((PR t (O t a f) L (aF t a f bad)).L)).toNat<n/\0<=(O t ((PR t (O t a f) L (aF t a f bad)).a) h)/\(O t ((PR t (O t a f) L (aF t a f bad)).a) h)<=(t.length:Int)/\t.length<=10000/\0<=((PR t (O t a f) L (aF t a f bad)).L)/\((PR t (O t a f) L (aF t a f bad)).L)<=900)/\((0<=((PR t (O t ((PR t (O t a f) L (aF t a f bad)).a) h) ((PR t (O t a f) L (aF t a f bad)).L) (aF t ((PR t (O t a f) L (aF t a f bad)).a) h ((PR t (O t a f) L (aF t a f bad)).bad))).a)/\((PR t (O t ((PR t (O t a f) L (aF t a f bad)).a) h) ((PR t (O t a f) L (aF t a f bad)).L) (aF t ((PR t (O t a f) L (aF t a f bad)).a) h ((PR t (O t a f) L (aF t a f bad)).bad))).a)<=(t.length:Int)/\t.length<=10000/\z.length<=10/\1<=z.length)/\(True/\((t=t/\((O t ((PR t (O t ((PR t (O t a f) L (aF t a f bad)).a) h) ((PR t (O t a f) L (aF t a f bad)).L) (aF t ((PR t (O t a f) L (aF t a f bad)).a) h ((PR t (O t a f) L (aF t a f bad)).bad))).a) z)=(O t (PR t (O t (PR t (O t a f) L (aF t a f bad)).a h) (PR t (O t a f) L (aF t a f bad)).L (aF t (PR t (O t a f) L (aF t a f bad)).a h (PR t (O t a f) L (aF t a f bad)).bad)).a z)/\(((PR t (O t ((PR t (O t a f) L (aF t a f bad)).a) h) ((PR t (O t a f) L (aF t a f bad)).L) (aF t ((PR t (O t a f) L (aF t a f bad)).a) h ((PR t (O t a f) L (aF t a f bad)).bad))).L)=((PR t (O t (PR t (O t a f) L (aF t a f bad)).a h) (PR t (O t a f) L (aF t a f bad)).L (aF t (PR t (O t a f) L (aF t a f bad)).a h (PR t (O t a f) L (aF t a f bad)).bad)).L)/\(aF t ((PR t (O t ((PR t (O t a f) L (aF t a f bad)).a) h) ((PR t (O t a f) L (aF t a f bad)).L) (aF t ((PR t (O t a f) L (aF t a f bad)).a) h ((PR t (O t a f) L (aF t a f bad)).bad))).a) z ((PR t (O t ((PR t (O t a f) L (aF t a f bad)).a) h) ((PR t (O t a f) L (aF t a f bad)).L) (aF t ((PR t (O t a f) L (aF t a f bad)).a) h ((PR t (O t a f) L (aF t a f bad)).bad))).bad))=(aF t (PR t (O t (PR t (O t a f) L (aF t a f bad)).a h) (PR t (O t a f) L (aF t a f bad)).L (aF t (PR t (O t a f) L (aF t a f bad)).a h (PR t (O t a f) L (aF t a f bad)).bad)).a z (PR t (O t (PR t (O t a f) L (aF t a f bad)).a h) (PR t (O t a f) L (aF t a f bad)).L (aF t (PR t (O t a f) L (aF t a f bad)).a h (PR t (O t a f) L (aF t a f bad)).bad)).bad))))/\((k=k/\(nu=nu/\(ck=ck/\(cn=cn/\(cs=cs/\([(ak ((PR t (O t a f) L (aF t a f bad)).p)),(ak ((PR t (O t ((PR t (O t a f) L (aF t a f bad)).a) h) ((PR t (O t a f) L (aF t a f bad)).L) (aF t ((PR t (O t a f) L (aF t a f bad)).a) h ((PR t (O t a f) L (aF t a f bad)).bad))).p))])=([(PR t (O t a f) L (aF t a f bad)).p,(PR t (O t (PR t (O t a f) L (aF t a f bad)).a h) (PR t (O t a f) L (aF t a f bad)).L (aF t (PR t (O t a f) L (aF t a f bad)).a h (PR t (O t a f) L (aF t a f bad)).bad)).p]))))))/\True))))))))):=by kernel_rfl
theorem xm(n:Nat)(hE:aR [])(hO:ja [])(hM:iu [])(hS:gO [cX,cO n]):gj.Good (e8 (n+1)):=by
 refine⟨aB kI rfl (by decide),?_⟩
 show ∀ (f:List UInt8) (h:List UInt8) (z:List UInt8) (t:List UInt8) (a:Int) (L:Int) (bad:Bool) (k:Int) (nu:Int) (ck:Int) (cn:Int) (cs:List M) (ks:List ai),(2 * (1001 - L).toNat+1<n+1/\0<=a/\a<=(t.length:Int)/\t.length<=10000/\0<=L/\L<=800/\f.length<=10/\1<=f.length/\h.length<=10/\1<=h.length/\z.length<=10/\1<=z.length)->o5 prog l6 [[.d .str, .d (.int .i64), .d (.int .i64), .d .bool],[.d (.int .i64), .d (.int .i64), .d (.int .i64), .d (.int .i64), .o (.slice (.st .expr)), .o (.slice (.st .prog))]] [.box 0, .box 1, .val ⟨.str,f⟩, .val ⟨.str,h⟩, .val ⟨.str,z⟩] [[⟨.str,t⟩,⟨(.int .i64),a⟩,⟨(.int .i64),L⟩,⟨.bool,bad⟩],[⟨(.int .i64),k⟩,⟨(.int .i64),nu⟩,⟨(.int .i64),ck⟩,⟨(.int .i64),cn⟩,⟨(.slice (.st .expr)),cs⟩,⟨(.slice (.st .prog)),ks⟩]] [] [[⟨.str,t⟩,⟨(.int .i64),O t (PR t (O t (PR t (O t a f) L (aF t a f bad)).a h) (PR t (O t a f) L (aF t a f bad)).L (aF t (PR t (O t a f) L (aF t a f bad)).a h (PR t (O t a f) L (aF t a f bad)).bad)).a z⟩,⟨(.int .i64),(PR t (O t (PR t (O t a f) L (aF t a f bad)).a h) (PR t (O t a f) L (aF t a f bad)).L (aF t (PR t (O t a f) L (aF t a f bad)).a h (PR t (O t a f) L (aF t a f bad)).bad)).L⟩,⟨.bool,aF t (PR t (O t (PR t (O t a f) L (aF t a f bad)).a h) (PR t (O t a f) L (aF t a f bad)).L (aF t (PR t (O t a f) L (aF t a f bad)).a h (PR t (O t a f) L (aF t a f bad)).bad)).a z (PR t (O t (PR t (O t a f) L (aF t a f bad)).a h) (PR t (O t a f) L (aF t a f bad)).L (aF t (PR t (O t a f) L (aF t a f bad)).a h (PR t (O t a f) L (aF t a f bad)).bad)).bad⟩],[⟨(.int .i64),k⟩,⟨(.int .i64),nu⟩,⟨(.int .i64),ck⟩,⟨(.int .i64),cn⟩,⟨(.slice (.st .expr)),cs⟩,⟨(.slice (.st .prog)),[(PR t (O t a f) L (aF t a f bad)).p,(PR t (O t (PR t (O t a f) L (aF t a f bad)).a h) (PR t (O t a f) L (aF t a f bad)).L (aF t (PR t (O t a f) L (aF t a f bad)).a h (PR t (O t a f) L (aF t a f bad)).bad)).p]⟩]]
 intro f h z t a L bad k nu ck cn cs ks hp
 refine fm (own:=[16,21,28]) (wr:=[]) (cl:=[]) (ro:=[]) hE hO hM hS kI vC (qt f h z t a L bad k nu ck cn cs ks) rfl rfl ?_
 rewrite [xH n f h z t a L bad k nu ck cn cs ks]
 obtain⟨hm,h0,h1,h2,h3,h4,h5,h6,h7,h8,h9,YI⟩:=hp
 have u1:=kf t a f h0
 have u2:=kg t a f h0 h1
 have b1:=CD t (O t a f) L (aF t a f bad) u1 u2 h3
 generalize aF t a f bad=wb at *
 generalize PR t (O t a f) L wb=X at *
 have c0:=b1.1.a0;have c1:=b1.1.a;have c2:=b1.1.lo;have c3:=b1.1.hi
 have u3:=kf t X.a h c0
 have u4:=kg t X.a h c0 c1
 have b2:=CD t (O t X.a h) X.L (aF t X.a h X.bad) u3 u4 (by omega)
 generalize aF t X.a h X.bad=wc at *
 generalize PR t (O t X.a h) X.L wc=Y at *
 have d0:=b2.1.a0;have d1:=b2.1.a;have d2:=b2.1.lo;have d3:=b2.1.hi
 simp only[ah,bo,ai.eta]
 repeat' (first|intro _|apply And.intro)
 all_goals first|exact True.intro|omega|with_reducible rfl|(simp;done)
def qz(t:List UInt8)(a:Int)(L:Int)(bad:Bool):Nat->aW:=(λ zb=>if Nat.beq zb 100035 then .mk (Unit) (λ u=>FH t a L bad) (λ u=>0) [] [1,4,5,6,7,8,9,10,11,12,13,14,15,16,17,18,19,20,21,22,23,24,25,26,27,28,29,30,31,32,33,34,35,36,37,38,39,40,41,42,43,44,45,46,47,48,49,50,51,52,53,54,55,56,57,58,59,60,61,62,63,64,65,66,67,68,69,70,71,72,73,74,75,76,77,78,79,80,81,82,83,84,85,86,87,88,89,90,91,92,93,94,95,96,97] (λ u=>[(3, .ptr 3 0)]) [0,2,98,99,100,101,102,103,104,105] (λ u=>[(400000, .box [.az ⟨.str,(t:List UInt8)⟩, .az ⟨(.int .i64),((PR t a L bad).a:Int)⟩, .az ⟨(.int .i64),((PR t a L bad).L+1:Int)⟩, .az ⟨.bool,((PR t a L bad).bad:Bool)⟩]),(3, .box [.az ⟨(.int .i64),((PR t a L bad).p.af:Int)⟩, .az ⟨(.int .i64),((PR t a L bad).p.al:Int)⟩, .az ⟨(.int .i64),((PR t a L bad).p.cond.af:Int)⟩, .az ⟨(.int .i64),((PR t a L bad).p.cond.al:Int)⟩, .aq 7200, .aq 7250]),(7200, .aq (.st .expr) ((PR t a L bad).p.cond.J:List M)),(7250, .aq (.st .prog) ((PR t a L bad).p.J:List ai))]) [] [] (λ u=>λ _ => .none) else if Nat.beq zb 100008 then .mk (Unit) (λ u=>NS t a L bad 0) (λ u=>0) [] [1,4,5,6,7,8,9,10,11,12,13,14,15,16,17,18,19,20,21,22,23,24,25,26,31,32,34,40,46,64,70,75,81,86,97] (λ u=>[(3, .ptr 3 0),(30, .az ⟨.bool,(aE t a.toNat [115,107,105,112]:Bool)⟩)]) [0,2,27,28,29,30,33,35,36,37,38,39,41,42,43,44,45,47,48,49,50,51,52,53,54,55,56,57,58,59,60,61,62,63,65,66,67,68,69,71,72,73,74,76,77,78,79,80,82,83,84,85,87,88,89,90,91,92,93,94,95,96,98,99,100,101,102,103,104,105] (λ u=>[(400000, .box [.az ⟨.str,(t:List UInt8)⟩, .az ⟨(.int .i64),(a:Int)⟩, .az ⟨(.int .i64),(L+1:Int)⟩, .az ⟨.bool,(bad:Bool)⟩]),(3, .box [.az ⟨(.int .i64),((0:Int):Int)⟩, .az ⟨(.int .i64),((0:Int):Int)⟩, .az ⟨(.int .i64),((0:Int):Int)⟩, .az ⟨(.int .i64),((0:Int):Int)⟩, .nil, .nil])]) [] [] (λ u=>(λ zb=>if Nat.beq zb 100011 then .mk (Unit) (λ u=>NS t a L bad 1) (λ u=>0) [] [1,4,5,6,7,8,9,10,11,12,13,14,15,16,17,18,19,20,21,22,23,24,25,26,30,31,32,33,34,35,37,38,40,46,64,70,75,81,86,97] (λ u=>[(3, .ptr 3 0),(36, .az ⟨.bool,(aE t a.toNat [102,97,105,108]:Bool)⟩)]) [0,2,27,28,29,36,39,41,42,43,44,45,47,48,49,50,51,52,53,54,55,56,57,58,59,60,61,62,63,65,66,67,68,69,71,72,73,74,76,77,78,79,80,82,83,84,85,87,88,89,90,91,92,93,94,95,96,98,99,100,101,102,103,104,105] (λ u=>[(400000, .box [.az ⟨.str,(t:List UInt8)⟩, .az ⟨(.int .i64),(a:Int)⟩, .az ⟨(.int .i64),(L+1:Int)⟩, .az ⟨.bool,(bad:Bool)⟩]),(3, .box [.az ⟨(.int .i64),((0:Int):Int)⟩, .az ⟨(.int .i64),((0:Int):Int)⟩, .az ⟨(.int .i64),((0:Int):Int)⟩, .az ⟨(.int .i64),((0:Int):Int)⟩, .nil, .nil])]) [] [] (λ u=>(λ zb=>if Nat.beq zb 100014 then .mk (Unit) (λ u=>NS t a L bad 2) (λ u=>0) [] [1,4,5,6,7,8,9,10,11,12,13,14,15,16,17,18,19,20,21,22,23,24,25,26,30,31,32,33,34,35,36,37,38,39,40,41,43,44,46,64,70,75,81,86,97] (λ u=>[(3, .ptr 3 0),(42, .az ⟨.bool,(aE t a.toNat [97,115,115,101,114,116,32]:Bool)⟩)]) [0,2,27,28,29,42,45,47,48,49,50,51,52,53,54,55,56,57,58,59,60,61,62,63,65,66,67,68,69,71,72,73,74,76,77,78,79,80,82,83,84,85,87,88,89,90,91,92,93,94,95,96,98,99,100,101,102,103,104,105] (λ u=>[(400000, .box [.az ⟨.str,(t:List UInt8)⟩, .az ⟨(.int .i64),(a:Int)⟩, .az ⟨(.int .i64),(L+1:Int)⟩, .az ⟨.bool,(bad:Bool)⟩]),(3, .box [.az ⟨(.int .i64),((0:Int):Int)⟩, .az ⟨(.int .i64),((0:Int):Int)⟩, .az ⟨(.int .i64),((0:Int):Int)⟩, .az ⟨(.int .i64),((0:Int):Int)⟩, .nil, .nil])]) [] [] (λ u=>(λ zb=>if Nat.beq zb 100018 then .mk (Unit) (λ u=>NS t a L bad 3) (λ u=>0) [] [1,4,5,6,7,8,9,10,11,12,13,14,15,16,17,18,19,20,21,22,23,24,25,26,30,31,32,33,34,35,36,37,38,39,40,41,42,43,44,45,46,47,48,49,50,52,53,64,70,75,81,86,97] (λ u=>[(3, .ptr 3 0),(51, .az ⟨.bool,(aE t a.toNat [97]:Bool)⟩)]) [0,2,27,28,29,51,54,55,56,57,58,59,60,61,62,63,65,66,67,68,69,71,72,73,74,76,77,78,79,80,82,83,84,85,87,88,89,90,91,92,93,94,95,96,98,99,100,101,102,103,104,105] (λ u=>[(400000, .box [.az ⟨.str,(t:List UInt8)⟩, .az ⟨(.int .i64),(a:Int)⟩, .az ⟨(.int .i64),(L+1:Int)⟩, .az ⟨.bool,(bad:Bool)⟩]),(3, .box [.az ⟨(.int .i64),((0:Int):Int)⟩, .az ⟨(.int .i64),((0:Int):Int)⟩, .az ⟨(.int .i64),((0:Int):Int)⟩, .az ⟨(.int .i64),((0:Int):Int)⟩, .nil, .nil])]) [] [] (λ u=>(λ zb=>if Nat.beq zb 100021 then .mk (Unit) (λ u=>NS t a L bad 4) (λ u=>0) [] [1,4,5,6,7,8,9,10,11,12,13,14,15,16,17,18,19,20,21,22,23,24,25,26,30,31,32,33,34,35,36,37,38,39,40,41,42,43,44,45,46,47,48,49,50,51,52,53,54,55,56,57,58,60,61,64,70,75,81,86,97] (λ u=>[(3, .ptr 3 0),(59, .az ⟨.bool,(aE t a.toNat [123]:Bool)⟩)]) [0,2,27,28,29,59,62,63,65,66,67,68,69,71,72,73,74,76,77,78,79,80,82,83,84,85,87,88,89,90,91,92,93,94,95,96,98,99,100,101,102,103,104,105] (λ u=>[(400000, .box [.az ⟨.str,(t:List UInt8)⟩, .az ⟨(.int .i64),(a:Int)⟩, .az ⟨(.int .i64),(L+1:Int)⟩, .az ⟨.bool,(bad:Bool)⟩]),(3, .box [.az ⟨(.int .i64),((0:Int):Int)⟩, .az ⟨(.int .i64),((0:Int):Int)⟩, .az ⟨(.int .i64),((0:Int):Int)⟩, .az ⟨(.int .i64),((0:Int):Int)⟩, .nil, .nil])]) [] [] (λ u=>(λ zb=>if Nat.beq zb 100024 then .mk (Unit) (λ u=>NS t a L bad 5) (λ u=>0) [] [1,4,5,6,7,8,9,10,11,12,13,14,15,16,17,18,19,20,21,22,23,24,25,26,30,31,32,33,34,35,36,37,38,39,40,41,42,43,44,45,46,47,48,49,50,51,52,53,54,55,56,57,58,59,60,61,62,63,64,66,67,70,75,81,86,97] (λ u=>[(3, .ptr 3 0),(65, .az ⟨.bool,(aE t a.toNat [105,102,32]:Bool)⟩)]) [0,2,27,28,29,65,68,69,71,72,73,74,76,77,78,79,80,82,83,84,85,87,88,89,90,91,92,93,94,95,96,98,99,100,101,102,103,104,105] (λ u=>[(400000, .box [.az ⟨.str,(t:List UInt8)⟩, .az ⟨(.int .i64),(a:Int)⟩, .az ⟨(.int .i64),(L+1:Int)⟩, .az ⟨.bool,(bad:Bool)⟩]),(3, .box [.az ⟨(.int .i64),((0:Int):Int)⟩, .az ⟨(.int .i64),((0:Int):Int)⟩, .az ⟨(.int .i64),((0:Int):Int)⟩, .az ⟨(.int .i64),((0:Int):Int)⟩, .nil, .nil])]) [] [] (λ u=>(λ zb=>if Nat.beq zb 100027 then .mk (RS) (λ C=>CS t a L bad 5 [105,102,32] C) (λ C=>0) [] [1,4,5,6,7,8,9,10,11,12,13,14,15,16,17,18,19,20,21,22,23,24,25,26,27,28,29,30,31,32,33,34,35,36,37,38,39,40,41,42,43,44,45,46,47,48,49,50,51,52,53,54,55,56,57,58,59,60,61,62,63,64,65,66,67,68,69,70,71,72,73,75,76,77,78,79,80,81,82,83,84,85,86,87,88,89,90,91,92,93,94,95,96,97] (λ C=>[(3, .ptr 3 0)]) [0,2,74,98,99,100,101,102,103,104,105] (λ C=>[(400000, .box [.az ⟨.str,(t:List UInt8)⟩, .az ⟨(.int .i64),((C.a:Int):Int)⟩, .az ⟨(.int .i64),((C.L:Int):Int)⟩, .az ⟨.bool,(C.bad:Bool)⟩]),(3, .box [.az ⟨(.int .i64),((6:Int):Int)⟩, .az ⟨(.int .i64),((0:Int):Int)⟩, .az ⟨(.int .i64),(C.e.af:Int)⟩, .az ⟨(.int .i64),(C.e.al:Int)⟩, .aq 7000, .nil]),(7000, .aq (.st .expr) (C.e.J:List M))]) [] [] (λ C=>λ _ => .none) else if Nat.beq zb 100029 then .mk (Unit) (λ u=>NS t a L bad 6) (λ u=>0) [] [1,4,5,6,7,8,9,10,11,12,13,14,15,16,17,18,19,20,21,22,23,24,25,26,30,31,32,33,34,35,36,37,38,39,40,41,42,43,44,45,46,47,48,49,50,51,52,53,54,55,56,57,58,59,60,61,62,63,64,65,66,67,68,69,70,71,72,73,74,75,77,78,81,86,97] (λ u=>[(3, .ptr 3 0),(76, .az ⟨.bool,(aE t a.toNat [119,104,105,108,101,32]:Bool)⟩)]) [0,2,27,28,29,76,79,80,82,83,84,85,87,88,89,90,91,92,93,94,95,96,98,99,100,101,102,103,104,105] (λ u=>[(400000, .box [.az ⟨.str,(t:List UInt8)⟩, .az ⟨(.int .i64),(a:Int)⟩, .az ⟨(.int .i64),(L+1:Int)⟩, .az ⟨.bool,(bad:Bool)⟩]),(3, .box [.az ⟨(.int .i64),((0:Int):Int)⟩, .az ⟨(.int .i64),((0:Int):Int)⟩, .az ⟨(.int .i64),((0:Int):Int)⟩, .az ⟨(.int .i64),((0:Int):Int)⟩, .nil, .nil])]) [] [] (λ u=>(λ zb=>if Nat.beq zb 100032 then .mk (RS) (λ C=>CS t a L bad 6 [119,104,105,108,101,32] C) (λ C=>0) [] [1,4,5,6,7,8,9,10,11,12,13,14,15,16,17,18,19,20,21,22,23,24,25,26,27,28,29,30,31,32,33,34,35,36,37,38,39,40,41,42,43,44,45,46,47,48,49,50,51,52,53,54,55,56,57,58,59,60,61,62,63,64,65,66,67,68,69,70,71,72,73,74,75,76,77,78,79,80,81,82,83,84,86,97] (λ C=>[(3, .ptr 3 0)]) [0,2,85,87,88,89,90,91,92,93,94,95,96,98,99,100,101,102,103,104,105] (λ C=>[(400000, .box [.az ⟨.str,(t:List UInt8)⟩, .az ⟨(.int .i64),((C.a:Int):Int)⟩, .az ⟨(.int .i64),((C.L:Int):Int)⟩, .az ⟨.bool,(C.bad:Bool)⟩]),(3, .box [.az ⟨(.int .i64),((7:Int):Int)⟩, .az ⟨(.int .i64),((0:Int):Int)⟩, .az ⟨(.int .i64),(C.e.af:Int)⟩, .az ⟨(.int .i64),(C.e.al:Int)⟩, .aq 7000, .nil]),(7000, .aq (.st .expr) (C.e.J:List M))]) [] [] (λ C=>(λ zb=>if Nat.beq zb 100034 then .mk (RT) (λ X=>WS t a L bad C X) (λ X=>0) [] [1,4,5,6,7,8,9,10,11,12,13,14,15,16,17,18,19,20,21,22,23,24,25,26,27,28,29,30,31,32,33,34,35,36,37,38,39,40,41,42,43,44,45,46,47,48,49,50,51,52,53,54,55,56,57,58,59,60,61,62,63,64,65,66,67,68,69,70,71,72,73,74,75,76,77,78,79,80,81,82,83,84,85,86,87,88,89,90,91,92,93,94,95,97] (λ X=>[(3, .ptr 3 0)]) [0,2,96,98,99,100,101,102,103,104,105] (λ X=>[(400000, .box [.az ⟨.str,(t:List UInt8)⟩, .az ⟨(.int .i64),(X.a:Int)⟩, .az ⟨(.int .i64),(X.L:Int)⟩, .az ⟨.bool,(X.bad:Bool)⟩]),(3, .box [.az ⟨(.int .i64),((7:Int):Int)⟩, .az ⟨(.int .i64),((0:Int):Int)⟩, .az ⟨(.int .i64),(C.e.af:Int)⟩, .az ⟨(.int .i64),(C.e.al:Int)⟩, .aq 7000, .aq 7100]),(7000, .aq (.st .expr) (C.e.J:List M)),(7100, .aq (.st .prog) ([X.p]:List ai))]) [] [] (λ X=>λ _ => .none) else .none)) else .none)) else .none)) else .none)) else .none)) else .none)) else .none)) else .none)) else .none)
abbrev oM(t:List UInt8)(a:Int)(L:Int)(bad:Bool):Prop:=(zP=((PR t a L bad).p)/\((t=t/\(a=((PR t a L bad).a)/\((L+(1:Int))=((PR t a L bad).L)/\true=((PR t a L bad).bad))))/\True))
abbrev c9 :Prop:=(((0:Int)=(0:Int)/\((0:Int)=(0:Int)/\((0:Int)=(0:Int)/\((0:Int)=(0:Int)/\(True/\(True/\True))))))/\(((0:Int)=(0:Int)/\((0:Int)=(0:Int)/\((0:Int)=(0:Int)/\((0:Int)=(0:Int)/\(True/\(True/\True))))))/\True))
abbrev gq(t:List UInt8)(a:Int)(L:Int)(bad:Bool):Prop:=((0:Int)=((PR t a L bad).p.al)/\((0:Int)=((PR t a L bad).p.cond.af)/\((0:Int)=((PR t a L bad).p.cond.al)/\(True/\(True/\True)))))
abbrev eL(t:List UInt8)(a:Int)(L:Int)(bad:Bool):Prop:=(((PR t a L bad).p.J)=[]/\(((0:Int)=(0:Int)/\((0:Int)=(0:Int)/\((0:Int)=(0:Int)/\((0:Int)=(0:Int)/\(True/\(True/\True))))))/\True))
abbrev jq(t:List UInt8)(a:Int)(L:Int)(bad:Bool)(C8:RS):Prop:=(∃ X9:RT,(WS t a L bad C8 X9/\((True/\(True/\(True/\True)))/\((t=t/\(((PR t (O t (C8.a:Int) ([32,100,111,32])) (C8.L:Int) (aF t (C8.a:Int) ([32,100,111,32]) C8.bad)).a)=X9.a/\(((PR t (O t (C8.a:Int) ([32,100,111,32])) (C8.L:Int) (aF t (C8.a:Int) ([32,100,111,32]) C8.bad)).L)=X9.L/\(((PR t (O t (C8.a:Int) ([32,100,111,32])) (C8.L:Int) (aF t (C8.a:Int) ([32,100,111,32]) C8.bad)).bad)=X9.bad/\True))))/\(((7:Int)=(7:Int)/\((0:Int)=(0:Int)/\(C8.e.af=C8.e.af/\(C8.e.al=C8.e.al/\(True/\(True/\True))))))/\(C8.e.J=C8.e.J/\((([]++([zP])).set 0 (ak ((PR t (O t (C8.a:Int) ([32,100,111,32])) (C8.L:Int) (aF t (C8.a:Int) ([32,100,111,32]) C8.bad)).p)))=([X9.p])/\(((0:Int)=(0:Int)/\((0:Int)=(0:Int)/\((0:Int)=(0:Int)/\((0:Int)=(0:Int)/\(True/\(True/\True))))))/\True))))))))
abbrev gu(t:List UInt8)(a:Int)(L:Int)(bad:Bool)(C8:RS):Prop:=(fI ((@List.nil ai).length+([zP]).length) 80/\(((3:Nat)=3/\(5:Nat)=5)/\((aZ (0:Int) ([]++([zP])).length/\(((3:Nat)=3/\(5:Nat)=5)/\((((3:Nat)=3/\(5:Nat)=5)/\(jq t a L bad C8))/\((jq t a L bad C8)/\True))))/\((aZ (0:Int) ([]++([zP])).length/\(jq t a L bad C8))/\True))))
abbrev jr(n:Nat)(t:List UInt8)(a:Int)(L:Int)(bad:Bool)(C8:RS):Prop:=((2 * (1001 - (C8.L:Int)).toNat<n/\0<=(O t (C8.a:Int) ([32,100,111,32]))/\(O t (C8.a:Int) ([32,100,111,32]))<=(t.length:Int)/\t.length<=10000/\0<=(C8.L:Int)/\(C8.L:Int)<=900)/\(gu t a L bad C8))
abbrev oN(n:Nat)(t:List UInt8)(a:Int)(L:Int)(bad:Bool):Prop:=((((0<=a/\a<=(t.length:Int)/\t.length<=10000/\([115,107,105,112]).length<=10/\1<=([115,107,105,112]).length)/\(∃ u1:Unit,(NS t a L bad 0/\((True/\(True/\(True/\((aE t a.toNat ([115,107,105,112]))=(aE t a.toNat [115,107,105,112])/\True))))/\((t=t/\(a=a/\((L+(1:Int))=(L+1)/\(bad=bad/\True))))/\c9)))))/\(∀ u1:Unit,(NS t a L bad 0 ->
 (((aE t a.toNat [115,107,105,112])=true ->
 ((0<=a/\a<=(t.length:Int)/\t.length<=10000/\([115,107,105,112]).length<=10/\1<=([115,107,105,112]).length)/\(∃ u2:Unit,(FH t a L bad/\((True/\(True/\(True/\True)))/\((t=t/\((O t a ([115,107,105,112]))=((PR t a L bad).a)/\((L+1)=((PR t a L bad).L+1)/\((aF t a ([115,107,105,112]) bad)=((PR t a L bad).bad)/\True))))/\(((1:Int)=((PR t a L bad).p.af)/\(gq t a L bad))/\(((PR t a L bad).p.cond.J)=[]/\(eL t a L bad)))))))))/\((aE t a.toNat [115,107,105,112])=false ->
 (((0<=a/\a<=(t.length:Int)/\t.length<=10000/\([102,97,105,108]).length<=10/\1<=([102,97,105,108]).length)/\(∃ u2:Unit,(NS t a L bad 1/\((True/\(True/\(True/\((aE t a.toNat ([102,97,105,108]))=(aE t a.toNat [102,97,105,108])/\True))))/\((t=t/\(a=a/\((L+1)=(L+1)/\(bad=bad/\True))))/\c9)))))/\(∀ u2:Unit,(NS t a L bad 1 ->
 (((aE t a.toNat [102,97,105,108])=true ->
 ((0<=a/\a<=(t.length:Int)/\t.length<=10000/\([102,97,105,108]).length<=10/\1<=([102,97,105,108]).length)/\(∃ u3:Unit,(FH t a L bad/\((True/\(True/\(True/\True)))/\((t=t/\((O t a ([102,97,105,108]))=((PR t a L bad).a)/\((L+1)=((PR t a L bad).L+1)/\((aF t a ([102,97,105,108]) bad)=((PR t a L bad).bad)/\True))))/\(((2:Int)=((PR t a L bad).p.af)/\(gq t a L bad))/\(((PR t a L bad).p.cond.J)=[]/\(eL t a L bad)))))))))/\((aE t a.toNat [102,97,105,108])=false ->
 (((0<=a/\a<=(t.length:Int)/\t.length<=10000/\([97,115,115,101,114,116,32]).length<=10/\1<=([97,115,115,101,114,116,32]).length)/\(∃ u3:Unit,(NS t a L bad 2/\((True/\(True/\(True/\((aE t a.toNat ([97,115,115,101,114,116,32]))=(aE t a.toNat [97,115,115,101,114,116,32])/\True))))/\((t=t/\(a=a/\((L+1)=(L+1)/\(bad=bad/\True))))/\c9)))))/\(∀ u3:Unit,(NS t a L bad 2 ->
 (((aE t a.toNat [97,115,115,101,114,116,32])=true ->
 ((0<=a/\a<=(t.length:Int)/\t.length<=10000/\([97,115,115,101,114,116,32]).length<=10/\1<=([97,115,115,101,114,116,32]).length)/\((0<=(O t a ([97,115,115,101,114,116,32]))/\(O t a ([97,115,115,101,114,116,32]))<=(t.length:Int)/\t.length<=10000/\0<=(L+1)/\(L+1)<=1000)/\(∃ u4:Unit,(FH t a L bad/\((True/\(True/\(True/\True)))/\((t=t/\((((aS t (O t a ([97,115,115,101,114,116,32])) (L+1) (aF t a ([97,115,115,101,114,116,32]) bad)).a:Int))=((PR t a L bad).a)/\((((aS t (O t a ([97,115,115,101,114,116,32])) (L+1) (aF t a ([97,115,115,101,114,116,32]) bad)).L:Int))=((PR t a L bad).L+1)/\(((aS t (O t a ([97,115,115,101,114,116,32])) (L+1) (aF t a ([97,115,115,101,114,116,32]) bad)).bad)=((PR t a L bad).bad)/\True))))/\(((4:Int)=((PR t a L bad).p.af)/\((0:Int)=((PR t a L bad).p.al)/\(((aS t (O t a ([97,115,115,101,114,116,32])) (L+1) (aF t a ([97,115,115,101,114,116,32]) bad)).e).af=((PR t a L bad).p.cond.af)/\(((aS t (O t a ([97,115,115,101,114,116,32])) (L+1) (aF t a ([97,115,115,101,114,116,32]) bad)).e).al=((PR t a L bad).p.cond.al)/\(True/\(True/\True))))))/\(((aS t (O t a ([97,115,115,101,114,116,32])) (L+1) (aF t a ([97,115,115,101,114,116,32]) bad)).e).J=((PR t a L bad).p.cond.J)/\(eL t a L bad))))))))))/\((aE t a.toNat [97,115,115,101,114,116,32])=false ->
 (((0<=a/\a<=(t.length:Int)/\t.length<=10000/\([97]).length<=10/\1<=([97]).length)/\(∃ u4:Unit,(NS t a L bad 3/\((True/\(True/\(True/\((aE t a.toNat ([97]))=(aE t a.toNat [97])/\True))))/\((t=t/\(a=a/\((L+1)=(L+1)/\(bad=bad/\True))))/\c9)))))/\(∀ u4:Unit,(NS t a L bad 3 ->
 (((aE t a.toNat [97])=true ->
 ((0<=a/\a<=(t.length:Int)/\t.length<=10000/\0<=(L+1)/\(bE t a.toNat=116\/bE t a.toNat=97)/\bad=false)/\(ah ((bP t a.toNat (L+1).toNat).e).al ->
 (∃ u5:Unit,(FH t a L bad/\((True/\(True/\(True/\True)))/\((t=t/\((((bP t a.toNat (L+1).toNat).a:Int))=((PR t a L bad).a)/\((L+1)=((PR t a L bad).L+1)/\(((bP t a.toNat (L+1).toNat).bad)=((PR t a L bad).bad)/\True))))/\(((3:Int)=((PR t a L bad).p.af)/\(((bP t a.toNat (L+1).toNat).e).al=((PR t a L bad).p.al)/\((0:Int)=((PR t a L bad).p.cond.af)/\((0:Int)=((PR t a L bad).p.cond.al)/\(True/\(True/\True))))))/\(((PR t a L bad).p.cond.J)=[]/\(eL t a L bad))))))))))/\((aE t a.toNat [97])=false ->
 (((0<=a/\a<=(t.length:Int)/\t.length<=10000/\([123]).length<=10/\1<=([123]).length)/\(∃ u5:Unit,(NS t a L bad 4/\((True/\(True/\(True/\((aE t a.toNat ([123]))=(aE t a.toNat [123])/\True))))/\((t=t/\(a=a/\((L+1)=(L+1)/\(bad=bad/\True))))/\c9)))))/\(∀ u5:Unit,(NS t a L bad 4 ->
 (((aE t a.toNat [123])=true ->
 ((2 * (1001 - (L+1)).toNat+1<n/\0<=a/\a<=(t.length:Int)/\t.length<=10000/\0<=(L+1)/\(L+1)<=800/\([123]).length<=10/\1<=([123]).length/\([59,32]).length<=10/\1<=([59,32]).length/\([125]).length<=10/\1<=([125]).length)/\(∃ u6:Unit,(FH t a L bad/\((True/\(True/\(True/\True)))/\((t=t/\((O t (PR t (O t (PR t (O t a ([123])) (L+1) (aF t a ([123]) bad)).a ([59,32])) (PR t (O t a ([123])) (L+1) (aF t a ([123]) bad)).L (aF t (PR t (O t a ([123])) (L+1) (aF t a ([123]) bad)).a ([59,32]) (PR t (O t a ([123])) (L+1) (aF t a ([123]) bad)).bad)).a ([125]))=((PR t a L bad).a)/\(((PR t (O t (PR t (O t a ([123])) (L+1) (aF t a ([123]) bad)).a ([59,32])) (PR t (O t a ([123])) (L+1) (aF t a ([123]) bad)).L (aF t (PR t (O t a ([123])) (L+1) (aF t a ([123]) bad)).a ([59,32]) (PR t (O t a ([123])) (L+1) (aF t a ([123]) bad)).bad)).L)=((PR t a L bad).L+1)/\((aF t (PR t (O t (PR t (O t a ([123])) (L+1) (aF t a ([123]) bad)).a ([59,32])) (PR t (O t a ([123])) (L+1) (aF t a ([123]) bad)).L (aF t (PR t (O t a ([123])) (L+1) (aF t a ([123]) bad)).a ([59,32]) (PR t (O t a ([123])) (L+1) (aF t a ([123]) bad)).bad)).a ([125]) (PR t (O t (PR t (O t a ([123])) (L+1) (aF t a ([123]) bad)).a ([59,32])) (PR t (O t a ([123])) (L+1) (aF t a ([123]) bad)).L (aF t (PR t (O t a ([123])) (L+1) (aF t a ([123]) bad)).a ([59,32]) (PR t (O t a ([123])) (L+1) (aF t a ([123]) bad)).bad)).bad)=((PR t a L bad).bad)/\True))))/\(((5:Int)=((PR t a L bad).p.af)/\(gq t a L bad))/\([]=((PR t a L bad).p.cond.J)/\(([(PR t (O t a ([123])) (L+1) (aF t a ([123]) bad)).p,(PR t (O t (PR t (O t a ([123])) (L+1) (aF t a ([123]) bad)).a ([59,32])) (PR t (O t a ([123])) (L+1) (aF t a ([123]) bad)).L (aF t (PR t (O t a ([123])) (L+1) (aF t a ([123]) bad)).a ([59,32]) (PR t (O t a ([123])) (L+1) (aF t a ([123]) bad)).bad)).p])=((PR t a L bad).p.J)/\(((0:Int)=(0:Int)/\((0:Int)=(0:Int)/\((0:Int)=(0:Int)/\((0:Int)=(0:Int)/\(True/\(True/\True))))))/\True))))))))))/\((aE t a.toNat [123])=false ->
 (((0<=a/\a<=(t.length:Int)/\t.length<=10000/\([105,102,32]).length<=10/\1<=([105,102,32]).length)/\(∃ u6:Unit,(NS t a L bad 5/\((True/\(True/\(True/\((aE t a.toNat ([105,102,32]))=(aE t a.toNat [105,102,32])/\True))))/\((t=t/\(a=a/\((L+1)=(L+1)/\(bad=bad/\True))))/\c9)))))/\(∀ u6:Unit,(NS t a L bad 5 ->
 (((aE t a.toNat [105,102,32])=true ->
 ((0<=a/\a<=(t.length:Int)/\t.length<=10000/\([105,102,32]).length<=10/\1<=([105,102,32]).length)/\(((0<=(O t a ([105,102,32]))/\(O t a ([105,102,32]))<=(t.length:Int)/\t.length<=10000/\0<=(L+1)/\(L+1)<=1000)/\(∃ C7:RS,(CS t a L bad 5 [105,102,32] C7/\((True/\(True/\(True/\True)))/\((t=t/\((((aS t (O t a ([105,102,32])) (L+1) (aF t a ([105,102,32]) bad)).a:Int))=(C7.a:Int)/\((((aS t (O t a ([105,102,32])) (L+1) (aF t a ([105,102,32]) bad)).L:Int))=(C7.L:Int)/\(((aS t (O t a ([105,102,32])) (L+1) (aF t a ([105,102,32]) bad)).bad)=C7.bad/\True))))/\(((6:Int)=(6:Int)/\((0:Int)=(0:Int)/\(((aS t (O t a ([105,102,32])) (L+1) (aF t a ([105,102,32]) bad)).e).af=C7.e.af/\(((aS t (O t a ([105,102,32])) (L+1) (aF t a ([105,102,32]) bad)).e).al=C7.e.al/\(True/\(True/\True))))))/\(((aS t (O t a ([105,102,32])) (L+1) (aF t a ([105,102,32]) bad)).e).J=C7.e.J/\(((0:Int)=(0:Int)/\((0:Int)=(0:Int)/\((0:Int)=(0:Int)/\((0:Int)=(0:Int)/\(True/\(True/\True))))))/\True))))))))/\(∀ C7:RS,(CS t a L bad 5 [105,102,32] C7 ->
 ((2 * (1001 - (C7.L:Int)).toNat+1<n/\0<=(C7.a:Int)/\(C7.a:Int)<=(t.length:Int)/\t.length<=10000/\0<=(C7.L:Int)/\(C7.L:Int)<=800/\([32,116,104,101,110,32]).length<=10/\1<=([32,116,104,101,110,32]).length/\([32,101,108,115,101,32]).length<=10/\1<=([32,101,108,115,101,32]).length/\([32,102,105]).length<=10/\1<=([32,102,105]).length)/\(∃ u8:Unit,(FH t a L bad/\((True/\(True/\(True/\True)))/\((t=t/\((O t (PR t (O t (PR t (O t (C7.a:Int) ([32,116,104,101,110,32])) (C7.L:Int) (aF t (C7.a:Int) ([32,116,104,101,110,32]) C7.bad)).a ([32,101,108,115,101,32])) (PR t (O t (C7.a:Int) ([32,116,104,101,110,32])) (C7.L:Int) (aF t (C7.a:Int) ([32,116,104,101,110,32]) C7.bad)).L (aF t (PR t (O t (C7.a:Int) ([32,116,104,101,110,32])) (C7.L:Int) (aF t (C7.a:Int) ([32,116,104,101,110,32]) C7.bad)).a ([32,101,108,115,101,32]) (PR t (O t (C7.a:Int) ([32,116,104,101,110,32])) (C7.L:Int) (aF t (C7.a:Int) ([32,116,104,101,110,32]) C7.bad)).bad)).a ([32,102,105]))=((PR t a L bad).a)/\(((PR t (O t (PR t (O t (C7.a:Int) ([32,116,104,101,110,32])) (C7.L:Int) (aF t (C7.a:Int) ([32,116,104,101,110,32]) C7.bad)).a ([32,101,108,115,101,32])) (PR t (O t (C7.a:Int) ([32,116,104,101,110,32])) (C7.L:Int) (aF t (C7.a:Int) ([32,116,104,101,110,32]) C7.bad)).L (aF t (PR t (O t (C7.a:Int) ([32,116,104,101,110,32])) (C7.L:Int) (aF t (C7.a:Int) ([32,116,104,101,110,32]) C7.bad)).a ([32,101,108,115,101,32]) (PR t (O t (C7.a:Int) ([32,116,104,101,110,32])) (C7.L:Int) (aF t (C7.a:Int) ([32,116,104,101,110,32]) C7.bad)).bad)).L)=((PR t a L bad).L+1)/\((aF t (PR t (O t (PR t (O t (C7.a:Int) ([32,116,104,101,110,32])) (C7.L:Int) (aF t (C7.a:Int) ([32,116,104,101,110,32]) C7.bad)).a ([32,101,108,115,101,32])) (PR t (O t (C7.a:Int) ([32,116,104,101,110,32])) (C7.L:Int) (aF t (C7.a:Int) ([32,116,104,101,110,32]) C7.bad)).L (aF t (PR t (O t (C7.a:Int) ([32,116,104,101,110,32])) (C7.L:Int) (aF t (C7.a:Int) ([32,116,104,101,110,32]) C7.bad)).a ([32,101,108,115,101,32]) (PR t (O t (C7.a:Int) ([32,116,104,101,110,32])) (C7.L:Int) (aF t (C7.a:Int) ([32,116,104,101,110,32]) C7.bad)).bad)).a ([32,102,105]) (PR t (O t (PR t (O t (C7.a:Int) ([32,116,104,101,110,32])) (C7.L:Int) (aF t (C7.a:Int) ([32,116,104,101,110,32]) C7.bad)).a ([32,101,108,115,101,32])) (PR t (O t (C7.a:Int) ([32,116,104,101,110,32])) (C7.L:Int) (aF t (C7.a:Int) ([32,116,104,101,110,32]) C7.bad)).L (aF t (PR t (O t (C7.a:Int) ([32,116,104,101,110,32])) (C7.L:Int) (aF t (C7.a:Int) ([32,116,104,101,110,32]) C7.bad)).a ([32,101,108,115,101,32]) (PR t (O t (C7.a:Int) ([32,116,104,101,110,32])) (C7.L:Int) (aF t (C7.a:Int) ([32,116,104,101,110,32]) C7.bad)).bad)).bad)=((PR t a L bad).bad)/\True))))/\(((6:Int)=((PR t a L bad).p.af)/\((0:Int)=((PR t a L bad).p.al)/\(C7.e.af=((PR t a L bad).p.cond.af)/\(C7.e.al=((PR t a L bad).p.cond.al)/\(True/\(True/\True))))))/\(C7.e.J=((PR t a L bad).p.cond.J)/\(([(PR t (O t (C7.a:Int) ([32,116,104,101,110,32])) (C7.L:Int) (aF t (C7.a:Int) ([32,116,104,101,110,32]) C7.bad)).p,(PR t (O t (PR t (O t (C7.a:Int) ([32,116,104,101,110,32])) (C7.L:Int) (aF t (C7.a:Int) ([32,116,104,101,110,32]) C7.bad)).a ([32,101,108,115,101,32])) (PR t (O t (C7.a:Int) ([32,116,104,101,110,32])) (C7.L:Int) (aF t (C7.a:Int) ([32,116,104,101,110,32]) C7.bad)).L (aF t (PR t (O t (C7.a:Int) ([32,116,104,101,110,32])) (C7.L:Int) (aF t (C7.a:Int) ([32,116,104,101,110,32]) C7.bad)).a ([32,101,108,115,101,32]) (PR t (O t (C7.a:Int) ([32,116,104,101,110,32])) (C7.L:Int) (aF t (C7.a:Int) ([32,116,104,101,110,32]) C7.bad)).bad)).p])=((PR t a L bad).p.J)/\(((0:Int)=(0:Int)/\((0:Int)=(0:Int)/\((0:Int)=(0:Int)/\((0:Int)=(0:Int)/\(True/\(True/\True))))))/\True))))))))))))))/\((aE t a.toNat [105,102,32])=false ->
 (((0<=a/\a<=(t.length:Int)/\t.length<=10000/\([119,104,105,108,101,32]).length<=10/\1<=([119,104,105,108,101,32]).length)/\(∃ u7:Unit,(NS t a L bad 6/\((True/\(True/\(True/\((aE t a.toNat ([119,104,105,108,101,32]))=(aE t a.toNat [119,104,105,108,101,32])/\True))))/\((t=t/\(a=a/\((L+1)=(L+1)/\(bad=bad/\True))))/\c9)))))/\(∀ u7:Unit,(NS t a L bad 6 ->
 (((aE t a.toNat [119,104,105,108,101,32])=true ->
 ((0<=a/\a<=(t.length:Int)/\t.length<=10000/\([119,104,105,108,101,32]).length<=10/\1<=([119,104,105,108,101,32]).length)/\(((0<=(O t a ([119,104,105,108,101,32]))/\(O t a ([119,104,105,108,101,32]))<=(t.length:Int)/\t.length<=10000/\0<=(L+1)/\(L+1)<=1000)/\(∃ C8:RS,(CS t a L bad 6 [119,104,105,108,101,32] C8/\((True/\(True/\(True/\True)))/\((t=t/\((((aS t (O t a ([119,104,105,108,101,32])) (L+1) (aF t a ([119,104,105,108,101,32]) bad)).a:Int))=(C8.a:Int)/\((((aS t (O t a ([119,104,105,108,101,32])) (L+1) (aF t a ([119,104,105,108,101,32]) bad)).L:Int))=(C8.L:Int)/\(((aS t (O t a ([119,104,105,108,101,32])) (L+1) (aF t a ([119,104,105,108,101,32]) bad)).bad)=C8.bad/\True))))/\(((7:Int)=(7:Int)/\((0:Int)=(0:Int)/\(((aS t (O t a ([119,104,105,108,101,32])) (L+1) (aF t a ([119,104,105,108,101,32]) bad)).e).af=C8.e.af/\(((aS t (O t a ([119,104,105,108,101,32])) (L+1) (aF t a ([119,104,105,108,101,32]) bad)).e).al=C8.e.al/\(True/\(True/\True))))))/\(((aS t (O t a ([119,104,105,108,101,32])) (L+1) (aF t a ([119,104,105,108,101,32]) bad)).e).J=C8.e.J/\(((0:Int)=(0:Int)/\((0:Int)=(0:Int)/\((0:Int)=(0:Int)/\((0:Int)=(0:Int)/\(True/\(True/\True))))))/\True))))))))/\(∀ C8:RS,(CS t a L bad 6 [119,104,105,108,101,32] C8 ->
 ((0<=(C8.a:Int)/\(C8.a:Int)<=(t.length:Int)/\t.length<=10000/\([32,100,111,32]).length<=10/\1<=([32,100,111,32]).length)/\((((3:Nat)=3/\(5:Nat)=5)/\(True/\(((400000:Nat)=400000/\(0:Nat)=0)/\(((2 * (1001 - (C8.L:Int)).toNat<n/\0<=(O t (C8.a:Int) ([32,100,111,32]))/\(O t (C8.a:Int) ([32,100,111,32]))<=(t.length:Int)/\t.length<=10000/\0<=(C8.L:Int)/\(C8.L:Int)<=900)/\(((3:Nat)=3/\(5:Nat)=5)/\(True/\((ah (0:Int) ->
 (gu t a L bad C8))/\((((3:Nat)=3/\(5:Nat)=5)/\(True/\(ah (0:Int) ->
 (gu t a L bad C8))))/\True)))))/\((ah (0:Int) ->
 (((400000:Nat)=400000/\(0:Nat)=0)/\((jr n t a L bad C8)/\((((400000:Nat)=400000/\(0:Nat)=0)/\(jr n t a L bad C8))/\True))))/\((((3:Nat)=3/\(5:Nat)=5)/\(True/\(((400000:Nat)=400000/\(0:Nat)=0)/\(((2 * (1001 - (C8.L:Int)).toNat<n/\0<=(O t (C8.a:Int) ([32,100,111,32]))/\(O t (C8.a:Int) ([32,100,111,32]))<=(t.length:Int)/\t.length<=10000/\0<=(C8.L:Int)/\(C8.L:Int)<=900)/\(((3:Nat)=3/\(5:Nat)=5)/\(True/\(ah (0:Int) ->
 (gu t a L bad C8)))))/\((ah (0:Int) ->
 (((400000:Nat)=400000/\(0:Nat)=0)/\(jr n t a L bad C8)))/\True)))))/\True))))))/\(∀ X9:RT,(WS t a L bad C8 X9 ->
 ((0<=X9.a/\X9.a<=(t.length:Int)/\t.length<=10000/\([32,111,100]).length<=10/\1<=([32,111,100]).length)/\(∃ u10:Unit,(FH t a L bad/\((True/\(True/\(True/\True)))/\((t=t/\((O t X9.a ([32,111,100]))=((PR t a L bad).a)/\(X9.L=((PR t a L bad).L+1)/\((aF t X9.a ([32,111,100]) X9.bad)=((PR t a L bad).bad)/\True))))/\(((7:Int)=((PR t a L bad).p.af)/\((0:Int)=((PR t a L bad).p.al)/\(C8.e.af=((PR t a L bad).p.cond.af)/\(C8.e.al=((PR t a L bad).p.cond.al)/\(True/\(True/\True))))))/\(C8.e.J=((PR t a L bad).p.cond.J)/\(([X9.p])=((PR t a L bad).p.J)/\(((0:Int)=(0:Int)/\((0:Int)=(0:Int)/\((0:Int)=(0:Int)/\((0:Int)=(0:Int)/\(True/\(True/\True))))))/\True))))))))))))))))))/\((aE t a.toNat [119,104,105,108,101,32])=false ->
 (∃ u8:Unit,(FH t a L bad/\((True/\(True/\(True/\True)))/\((t=t/\(a=((PR t a L bad).a)/\((L+1)=((PR t a L bad).L+1)/\(true=((PR t a L bad).bad)/\True))))/\(((0:Int)=((PR t a L bad).p.af)/\(gq t a L bad))/\(((PR t a L bad).p.cond.J)=[]/\(eL t a L bad))))))))))))))))))))))))))))))))))))))))))/\(∀ u1:Unit,(FH t a L bad ->
 (ah ((PR t a L bad).L+1) ->
 (ah (((PR t a L bad).L+1) - (1:Int))/\((ai.mk ((PR t a L bad).p.af) ((PR t a L bad).p.al) (M.mk ((PR t a L bad).p.cond.af) ((PR t a L bad).p.cond.al) ((PR t a L bad).p.cond.J)) ((PR t a L bad).p.J))=((PR t a L bad).p)/\((t=t/\(((PR t a L bad).a)=((PR t a L bad).a)/\((((PR t a L bad).L+1) - (1:Int))=((PR t a L bad).L)/\((PR t a L bad).bad)=((PR t a L bad).bad))))/\True)))))))
theorem xN(n:Nat)(t:List UInt8)(a:Int)(L:Int)(bad:Bool):dd (dr [] [] [] [49,56,72,83,90,92,93,94] [] [] [] [fE,cX,hJ,cW,e8 n,cO n]) (aD eG) (qz t a L bad) 0 (ij (dr [] [] [] [49,56,72,83,90,92,93,94] [] [] [] [fE,cX,hJ,cW,e8 n,cO n]) eG [[.d .str, .d (.int .i64), .d (.int .i64), .d .bool]] λ r ds=>bR r [⟨(.st .prog),(PR t a L bad).p⟩]/\jl ds [[⟨.str,t⟩,⟨(.int .i64),(PR t a L bad).a⟩,⟨(.int .i64),(PR t a L bad).L⟩,⟨.bool,(PR t a L bad).bad⟩]]) (cv eG [.box 0] [[.d .str, .d (.int .i64), .d (.int .i64), .d .bool]] [[⟨.str,t⟩,⟨(.int .i64),a⟩,⟨(.int .i64),L⟩,⟨.bool,bad⟩]]) =
 ((ah L ->
 (ah (L+(1:Int))/\((bad=false ->
 (ah (L+(1:Int)) ->
 (((decide ((60:Int)<(L+(1:Int))))=true ->
 (oM t a L bad))/\((decide ((60:Int)<(L+(1:Int))))=false ->
 (oN n t a L bad)))))/\(bad=(!false) ->
 ((true=true ->
 (oM t a L bad))/\(true=false ->
 (oN n t a L bad)))))))):=by kernel_rfl
theorem xu(n:Nat)(hE:aR [])(hO:ja [])(hM:iu [])(hS:gO [fE,cX,hJ,cW,e8 n,cO n]):gj.Good (cO (n+1)):=by
 refine⟨aB gV rfl (by decide),?_⟩
 show ∀ (t:List UInt8) (a:Int) (L:Int) (bad:Bool),(2 * (1001 - L).toNat<n+1/\0<=a/\a<=(t.length:Int)/\t.length<=10000/\0<=L/\L<=900)->o5 prog iF [[.d .str, .d (.int .i64), .d (.int .i64), .d .bool]] [.box 0] [[⟨.str,t⟩,⟨(.int .i64),a⟩,⟨(.int .i64),L⟩,⟨.bool,bad⟩]] [⟨(.st .prog),(PR t a L bad).p⟩] [[⟨.str,t⟩,⟨(.int .i64),(PR t a L bad).a⟩,⟨(.int .i64),(PR t a L bad).L⟩,⟨.bool,(PR t a L bad).bad⟩]]
 intro t a L bad hp
 refine fm (own:=[49,56,72,83,90,92,93,94]) (wr:=[]) (cl:=[]) (ro:=[]) hE hO hM hS gV vI (qz t a L bad) rfl rfl ?_
 rewrite [xN n t a L bad]
 obtain⟨hm,h0,h1,hl,d0,d1⟩:=hp
 have n0:¬ 60<L+1->bad=false->NS t a L bad 0:=λ h hb=>⟨h0,h1,hl,d0,by omega,hb,λ i hi=>absurd hi (a2s _)⟩
 refine λ a0=>⟨?_,⟨λ a1=>λ a2=>⟨λ a3=>⟨?_,⟨⟨rfl,⟨?_,⟨?_,?_⟩⟩⟩,trivial⟩⟩,λ a3=>⟨⟨⟨?_,⟨(),⟨?_,⟨⟨trivial,⟨trivial,⟨trivial,⟨?_,trivial⟩⟩⟩⟩,⟨⟨rfl,⟨rfl,⟨?_,⟨rfl,trivial⟩⟩⟩⟩,⟨⟨rfl,⟨rfl,⟨rfl,⟨rfl,⟨trivial,⟨trivial,trivial⟩⟩⟩⟩⟩⟩,⟨⟨rfl,⟨rfl,⟨rfl,⟨rfl,⟨trivial,⟨trivial,trivial⟩⟩⟩⟩⟩⟩,trivial⟩⟩⟩⟩⟩⟩⟩,λ u1=>λ a4=>⟨λ a5=>⟨?_,⟨(),⟨?_,⟨⟨trivial,⟨trivial,⟨trivial,trivial⟩⟩⟩,⟨⟨rfl,⟨?_,⟨?_,⟨?_,trivial⟩⟩⟩⟩,⟨⟨?_,⟨?_,⟨?_,⟨?_,⟨trivial,⟨trivial,trivial⟩⟩⟩⟩⟩⟩,⟨?_,⟨?_,⟨⟨rfl,⟨rfl,⟨rfl,⟨rfl,⟨trivial,⟨trivial,trivial⟩⟩⟩⟩⟩⟩,trivial⟩⟩⟩⟩⟩⟩⟩⟩⟩,λ a5=>⟨⟨?_,⟨(),⟨?_,⟨⟨trivial,⟨trivial,⟨trivial,⟨?_,trivial⟩⟩⟩⟩,⟨⟨rfl,⟨rfl,⟨rfl,⟨rfl,trivial⟩⟩⟩⟩,⟨⟨rfl,⟨rfl,⟨rfl,⟨rfl,⟨trivial,⟨trivial,trivial⟩⟩⟩⟩⟩⟩,⟨⟨rfl,⟨rfl,⟨rfl,⟨rfl,⟨trivial,⟨trivial,trivial⟩⟩⟩⟩⟩⟩,trivial⟩⟩⟩⟩⟩⟩⟩,λ u2=>λ a6=>⟨λ a7=>⟨?_,⟨(),⟨?_,⟨⟨trivial,⟨trivial,⟨trivial,trivial⟩⟩⟩,⟨⟨rfl,⟨?_,⟨?_,⟨?_,trivial⟩⟩⟩⟩,⟨⟨?_,⟨?_,⟨?_,⟨?_,⟨trivial,⟨trivial,trivial⟩⟩⟩⟩⟩⟩,⟨?_,⟨?_,⟨⟨rfl,⟨rfl,⟨rfl,⟨rfl,⟨trivial,⟨trivial,trivial⟩⟩⟩⟩⟩⟩,trivial⟩⟩⟩⟩⟩⟩⟩⟩⟩,λ a7=>⟨⟨?_,⟨(),⟨?_,⟨⟨trivial,⟨trivial,⟨trivial,⟨?_,trivial⟩⟩⟩⟩,⟨⟨rfl,⟨rfl,⟨rfl,⟨rfl,trivial⟩⟩⟩⟩,⟨⟨rfl,⟨rfl,⟨rfl,⟨rfl,⟨trivial,⟨trivial,trivial⟩⟩⟩⟩⟩⟩,⟨⟨rfl,⟨rfl,⟨rfl,⟨rfl,⟨trivial,⟨trivial,trivial⟩⟩⟩⟩⟩⟩,trivial⟩⟩⟩⟩⟩⟩⟩,λ u3=>λ a8=>⟨λ a9=>⟨?_,⟨?_,⟨(),⟨?_,⟨⟨trivial,⟨trivial,⟨trivial,trivial⟩⟩⟩,⟨⟨rfl,⟨?_,⟨?_,⟨?_,trivial⟩⟩⟩⟩,⟨⟨?_,⟨?_,⟨?_,⟨?_,⟨trivial,⟨trivial,trivial⟩⟩⟩⟩⟩⟩,⟨?_,⟨?_,⟨⟨rfl,⟨rfl,⟨rfl,⟨rfl,⟨trivial,⟨trivial,trivial⟩⟩⟩⟩⟩⟩,trivial⟩⟩⟩⟩⟩⟩⟩⟩⟩⟩,λ a9=>⟨⟨?_,⟨(),⟨?_,⟨⟨trivial,⟨trivial,⟨trivial,⟨?_,trivial⟩⟩⟩⟩,⟨⟨rfl,⟨rfl,⟨rfl,⟨rfl,trivial⟩⟩⟩⟩,⟨⟨rfl,⟨rfl,⟨rfl,⟨rfl,⟨trivial,⟨trivial,trivial⟩⟩⟩⟩⟩⟩,⟨⟨rfl,⟨rfl,⟨rfl,⟨rfl,⟨trivial,⟨trivial,trivial⟩⟩⟩⟩⟩⟩,trivial⟩⟩⟩⟩⟩⟩⟩,λ u4=>λ gl=>⟨λ jn=>⟨?_,λ a12=>⟨(),⟨?_,⟨⟨trivial,⟨trivial,⟨trivial,trivial⟩⟩⟩,⟨⟨rfl,⟨?_,⟨?_,⟨?_,trivial⟩⟩⟩⟩,⟨⟨?_,⟨?_,⟨?_,⟨?_,⟨trivial,⟨trivial,trivial⟩⟩⟩⟩⟩⟩,⟨?_,⟨?_,⟨⟨rfl,⟨rfl,⟨rfl,⟨rfl,⟨trivial,⟨trivial,trivial⟩⟩⟩⟩⟩⟩,trivial⟩⟩⟩⟩⟩⟩⟩⟩⟩,λ jn=>⟨⟨?_,⟨(),⟨?_,⟨⟨trivial,⟨trivial,⟨trivial,⟨?_,trivial⟩⟩⟩⟩,⟨⟨rfl,⟨rfl,⟨rfl,⟨rfl,trivial⟩⟩⟩⟩,⟨⟨rfl,⟨rfl,⟨rfl,⟨rfl,⟨trivial,⟨trivial,trivial⟩⟩⟩⟩⟩⟩,⟨⟨rfl,⟨rfl,⟨rfl,⟨rfl,⟨trivial,⟨trivial,trivial⟩⟩⟩⟩⟩⟩,trivial⟩⟩⟩⟩⟩⟩⟩,λ u5=>λ a12=>⟨λ vB=>⟨?_,⟨(),⟨?_,⟨⟨trivial,⟨trivial,⟨trivial,trivial⟩⟩⟩,⟨⟨rfl,⟨?_,⟨?_,⟨?_,trivial⟩⟩⟩⟩,⟨⟨?_,⟨?_,⟨?_,⟨?_,⟨trivial,⟨trivial,trivial⟩⟩⟩⟩⟩⟩,⟨?_,⟨?_,⟨⟨rfl,⟨rfl,⟨rfl,⟨rfl,⟨trivial,⟨trivial,trivial⟩⟩⟩⟩⟩⟩,trivial⟩⟩⟩⟩⟩⟩⟩⟩⟩,λ vB=>⟨⟨?_,⟨(),⟨?_,⟨⟨trivial,⟨trivial,⟨trivial,⟨?_,trivial⟩⟩⟩⟩,⟨⟨rfl,⟨rfl,⟨rfl,⟨rfl,trivial⟩⟩⟩⟩,⟨⟨rfl,⟨rfl,⟨rfl,⟨rfl,⟨trivial,⟨trivial,trivial⟩⟩⟩⟩⟩⟩,⟨⟨rfl,⟨rfl,⟨rfl,⟨rfl,⟨trivial,⟨trivial,trivial⟩⟩⟩⟩⟩⟩,trivial⟩⟩⟩⟩⟩⟩⟩,λ u6=>λ sN=>⟨λ KR=>⟨?_,⟨⟨?_,⟨(aS t (O t a [105,102,32]) (L+1) (aF t a [105,102,32] bad)),⟨?_,⟨⟨trivial,⟨trivial,⟨trivial,trivial⟩⟩⟩,⟨⟨rfl,⟨?_,⟨?_,⟨?_,trivial⟩⟩⟩⟩,⟨⟨rfl,⟨rfl,⟨?_,⟨?_,⟨trivial,⟨trivial,trivial⟩⟩⟩⟩⟩⟩,⟨?_,⟨⟨rfl,⟨rfl,⟨rfl,⟨rfl,⟨trivial,⟨trivial,trivial⟩⟩⟩⟩⟩⟩,trivial⟩⟩⟩⟩⟩⟩⟩⟩,λ C7=>λ FI=>⟨?_,⟨(),⟨?_,⟨⟨trivial,⟨trivial,⟨trivial,trivial⟩⟩⟩,⟨⟨rfl,⟨?_,⟨?_,⟨?_,trivial⟩⟩⟩⟩,⟨⟨?_,⟨?_,⟨?_,⟨?_,⟨trivial,⟨trivial,trivial⟩⟩⟩⟩⟩⟩,⟨?_,⟨?_,⟨⟨rfl,⟨rfl,⟨rfl,⟨rfl,⟨trivial,⟨trivial,trivial⟩⟩⟩⟩⟩⟩,trivial⟩⟩⟩⟩⟩⟩⟩⟩⟩⟩⟩,λ KR=>⟨⟨?_,⟨(),⟨?_,⟨⟨trivial,⟨trivial,⟨trivial,⟨?_,trivial⟩⟩⟩⟩,⟨⟨rfl,⟨rfl,⟨rfl,⟨rfl,trivial⟩⟩⟩⟩,⟨⟨rfl,⟨rfl,⟨rfl,⟨rfl,⟨trivial,⟨trivial,trivial⟩⟩⟩⟩⟩⟩,⟨⟨rfl,⟨rfl,⟨rfl,⟨rfl,⟨trivial,⟨trivial,trivial⟩⟩⟩⟩⟩⟩,trivial⟩⟩⟩⟩⟩⟩⟩,λ u7=>λ FI=>⟨λ P8=>⟨?_,⟨⟨?_,⟨(aS t (O t a [119,104,105,108,101,32]) (L+1) (aF t a [119,104,105,108,101,32] bad)),⟨?_,⟨⟨trivial,⟨trivial,⟨trivial,trivial⟩⟩⟩,⟨⟨rfl,⟨?_,⟨?_,⟨?_,trivial⟩⟩⟩⟩,⟨⟨rfl,⟨rfl,⟨?_,⟨?_,⟨trivial,⟨trivial,trivial⟩⟩⟩⟩⟩⟩,⟨?_,⟨⟨rfl,⟨rfl,⟨rfl,⟨rfl,⟨trivial,⟨trivial,trivial⟩⟩⟩⟩⟩⟩,trivial⟩⟩⟩⟩⟩⟩⟩⟩,λ C8=>λ HQ=>⟨?_,⟨⟨⟨?_,?_⟩,⟨?_,⟨⟨?_,?_⟩,⟨⟨?_,⟨⟨?_,?_⟩,⟨?_,⟨λ KS=>⟨?_,⟨⟨?_,?_⟩,⟨⟨?_,⟨⟨?_,?_⟩,⟨⟨⟨?_,?_⟩,⟨(PR t (O t (C8.a:Int) [32,100,111,32]) (C8.L:Int) (aF t (C8.a:Int) [32,100,111,32] C8.bad)),⟨?_,⟨⟨trivial,⟨trivial,⟨trivial,trivial⟩⟩⟩,⟨⟨rfl,⟨?_,⟨?_,⟨?_,trivial⟩⟩⟩⟩,⟨⟨rfl,⟨rfl,⟨rfl,⟨rfl,⟨trivial,⟨trivial,trivial⟩⟩⟩⟩⟩⟩,⟨rfl,⟨?_,⟨⟨rfl,⟨rfl,⟨rfl,⟨rfl,⟨trivial,⟨trivial,trivial⟩⟩⟩⟩⟩⟩,trivial⟩⟩⟩⟩⟩⟩⟩⟩⟩,⟨⟨(PR t (O t (C8.a:Int) [32,100,111,32]) (C8.L:Int) (aF t (C8.a:Int) [32,100,111,32] C8.bad)),⟨?_,⟨⟨trivial,⟨trivial,⟨trivial,trivial⟩⟩⟩,⟨⟨rfl,⟨?_,⟨?_,⟨?_,trivial⟩⟩⟩⟩,⟨⟨rfl,⟨rfl,⟨rfl,⟨rfl,⟨trivial,⟨trivial,trivial⟩⟩⟩⟩⟩⟩,⟨rfl,⟨?_,⟨⟨rfl,⟨rfl,⟨rfl,⟨rfl,⟨trivial,⟨trivial,trivial⟩⟩⟩⟩⟩⟩,trivial⟩⟩⟩⟩⟩⟩⟩⟩,trivial⟩⟩⟩⟩,⟨⟨?_,⟨(PR t (O t (C8.a:Int) [32,100,111,32]) (C8.L:Int) (aF t (C8.a:Int) [32,100,111,32] C8.bad)),⟨?_,⟨⟨trivial,⟨trivial,⟨trivial,trivial⟩⟩⟩,⟨⟨rfl,⟨?_,⟨?_,⟨?_,trivial⟩⟩⟩⟩,⟨⟨rfl,⟨rfl,⟨rfl,⟨rfl,⟨trivial,⟨trivial,trivial⟩⟩⟩⟩⟩⟩,⟨rfl,⟨?_,⟨⟨rfl,⟨rfl,⟨rfl,⟨rfl,⟨trivial,⟨trivial,trivial⟩⟩⟩⟩⟩⟩,trivial⟩⟩⟩⟩⟩⟩⟩⟩⟩,trivial⟩⟩⟩⟩,⟨⟨⟨?_,?_⟩,⟨?_,λ KS=>⟨?_,⟨⟨?_,?_⟩,⟨⟨?_,⟨⟨?_,?_⟩,⟨⟨⟨?_,?_⟩,⟨(PR t (O t (C8.a:Int) [32,100,111,32]) (C8.L:Int) (aF t (C8.a:Int) [32,100,111,32] C8.bad)),⟨?_,⟨⟨trivial,⟨trivial,⟨trivial,trivial⟩⟩⟩,⟨⟨rfl,⟨?_,⟨?_,⟨?_,trivial⟩⟩⟩⟩,⟨⟨rfl,⟨rfl,⟨rfl,⟨rfl,⟨trivial,⟨trivial,trivial⟩⟩⟩⟩⟩⟩,⟨rfl,⟨?_,⟨⟨rfl,⟨rfl,⟨rfl,⟨rfl,⟨trivial,⟨trivial,trivial⟩⟩⟩⟩⟩⟩,trivial⟩⟩⟩⟩⟩⟩⟩⟩⟩,⟨⟨(PR t (O t (C8.a:Int) [32,100,111,32]) (C8.L:Int) (aF t (C8.a:Int) [32,100,111,32] C8.bad)),⟨?_,⟨⟨trivial,⟨trivial,⟨trivial,trivial⟩⟩⟩,⟨⟨rfl,⟨?_,⟨?_,⟨?_,trivial⟩⟩⟩⟩,⟨⟨rfl,⟨rfl,⟨rfl,⟨rfl,⟨trivial,⟨trivial,trivial⟩⟩⟩⟩⟩⟩,⟨rfl,⟨?_,⟨⟨rfl,⟨rfl,⟨rfl,⟨rfl,⟨trivial,⟨trivial,trivial⟩⟩⟩⟩⟩⟩,trivial⟩⟩⟩⟩⟩⟩⟩⟩,trivial⟩⟩⟩⟩,⟨⟨?_,⟨(PR t (O t (C8.a:Int) [32,100,111,32]) (C8.L:Int) (aF t (C8.a:Int) [32,100,111,32] C8.bad)),⟨?_,⟨⟨trivial,⟨trivial,⟨trivial,trivial⟩⟩⟩,⟨⟨rfl,⟨?_,⟨?_,⟨?_,trivial⟩⟩⟩⟩,⟨⟨rfl,⟨rfl,⟨rfl,⟨rfl,⟨trivial,⟨trivial,trivial⟩⟩⟩⟩⟩⟩,⟨rfl,⟨?_,⟨⟨rfl,⟨rfl,⟨rfl,⟨rfl,⟨trivial,⟨trivial,trivial⟩⟩⟩⟩⟩⟩,trivial⟩⟩⟩⟩⟩⟩⟩⟩⟩,trivial⟩⟩⟩⟩⟩⟩,trivial⟩⟩⟩⟩⟩,⟨λ KS=>⟨⟨?_,?_⟩,⟨⟨?_,⟨?_,⟨⟨?_,?_⟩,⟨⟨?_,⟨⟨?_,?_⟩,⟨⟨⟨?_,?_⟩,⟨(PR t (O t (C8.a:Int) [32,100,111,32]) (C8.L:Int) (aF t (C8.a:Int) [32,100,111,32] C8.bad)),⟨?_,⟨⟨trivial,⟨trivial,⟨trivial,trivial⟩⟩⟩,⟨⟨rfl,⟨?_,⟨?_,⟨?_,trivial⟩⟩⟩⟩,⟨⟨rfl,⟨rfl,⟨rfl,⟨rfl,⟨trivial,⟨trivial,trivial⟩⟩⟩⟩⟩⟩,⟨rfl,⟨?_,⟨⟨rfl,⟨rfl,⟨rfl,⟨rfl,⟨trivial,⟨trivial,trivial⟩⟩⟩⟩⟩⟩,trivial⟩⟩⟩⟩⟩⟩⟩⟩⟩,⟨⟨(PR t (O t (C8.a:Int) [32,100,111,32]) (C8.L:Int) (aF t (C8.a:Int) [32,100,111,32] C8.bad)),⟨?_,⟨⟨trivial,⟨trivial,⟨trivial,trivial⟩⟩⟩,⟨⟨rfl,⟨?_,⟨?_,⟨?_,trivial⟩⟩⟩⟩,⟨⟨rfl,⟨rfl,⟨rfl,⟨rfl,⟨trivial,⟨trivial,trivial⟩⟩⟩⟩⟩⟩,⟨rfl,⟨?_,⟨⟨rfl,⟨rfl,⟨rfl,⟨rfl,⟨trivial,⟨trivial,trivial⟩⟩⟩⟩⟩⟩,trivial⟩⟩⟩⟩⟩⟩⟩⟩,trivial⟩⟩⟩⟩,⟨⟨?_,⟨(PR t (O t (C8.a:Int) [32,100,111,32]) (C8.L:Int) (aF t (C8.a:Int) [32,100,111,32] C8.bad)),⟨?_,⟨⟨trivial,⟨trivial,⟨trivial,trivial⟩⟩⟩,⟨⟨rfl,⟨?_,⟨?_,⟨?_,trivial⟩⟩⟩⟩,⟨⟨rfl,⟨rfl,⟨rfl,⟨rfl,⟨trivial,⟨trivial,trivial⟩⟩⟩⟩⟩⟩,⟨rfl,⟨?_,⟨⟨rfl,⟨rfl,⟨rfl,⟨rfl,⟨trivial,⟨trivial,trivial⟩⟩⟩⟩⟩⟩,trivial⟩⟩⟩⟩⟩⟩⟩⟩⟩,trivial⟩⟩⟩⟩⟩,⟨⟨⟨?_,?_⟩,⟨?_,⟨?_,⟨⟨?_,?_⟩,⟨⟨?_,⟨⟨?_,?_⟩,⟨⟨⟨?_,?_⟩,⟨(PR t (O t (C8.a:Int) [32,100,111,32]) (C8.L:Int) (aF t (C8.a:Int) [32,100,111,32] C8.bad)),⟨?_,⟨⟨trivial,⟨trivial,⟨trivial,trivial⟩⟩⟩,⟨⟨rfl,⟨?_,⟨?_,⟨?_,trivial⟩⟩⟩⟩,⟨⟨rfl,⟨rfl,⟨rfl,⟨rfl,⟨trivial,⟨trivial,trivial⟩⟩⟩⟩⟩⟩,⟨rfl,⟨?_,⟨⟨rfl,⟨rfl,⟨rfl,⟨rfl,⟨trivial,⟨trivial,trivial⟩⟩⟩⟩⟩⟩,trivial⟩⟩⟩⟩⟩⟩⟩⟩⟩,⟨⟨(PR t (O t (C8.a:Int) [32,100,111,32]) (C8.L:Int) (aF t (C8.a:Int) [32,100,111,32] C8.bad)),⟨?_,⟨⟨trivial,⟨trivial,⟨trivial,trivial⟩⟩⟩,⟨⟨rfl,⟨?_,⟨?_,⟨?_,trivial⟩⟩⟩⟩,⟨⟨rfl,⟨rfl,⟨rfl,⟨rfl,⟨trivial,⟨trivial,trivial⟩⟩⟩⟩⟩⟩,⟨rfl,⟨?_,⟨⟨rfl,⟨rfl,⟨rfl,⟨rfl,⟨trivial,⟨trivial,trivial⟩⟩⟩⟩⟩⟩,trivial⟩⟩⟩⟩⟩⟩⟩⟩,trivial⟩⟩⟩⟩,⟨⟨?_,⟨(PR t (O t (C8.a:Int) [32,100,111,32]) (C8.L:Int) (aF t (C8.a:Int) [32,100,111,32] C8.bad)),⟨?_,⟨⟨trivial,⟨trivial,⟨trivial,trivial⟩⟩⟩,⟨⟨rfl,⟨?_,⟨?_,⟨?_,trivial⟩⟩⟩⟩,⟨⟨rfl,⟨rfl,⟨rfl,⟨rfl,⟨trivial,⟨trivial,trivial⟩⟩⟩⟩⟩⟩,⟨rfl,⟨?_,⟨⟨rfl,⟨rfl,⟨rfl,⟨rfl,⟨trivial,⟨trivial,trivial⟩⟩⟩⟩⟩⟩,trivial⟩⟩⟩⟩⟩⟩⟩⟩⟩,trivial⟩⟩⟩⟩⟩⟩,trivial⟩⟩⟩,⟨⟨⟨?_,?_⟩,⟨?_,⟨⟨?_,?_⟩,⟨⟨?_,⟨⟨?_,?_⟩,⟨?_,λ KS=>⟨?_,⟨⟨?_,?_⟩,⟨⟨?_,⟨⟨?_,?_⟩,⟨⟨⟨?_,?_⟩,⟨(PR t (O t (C8.a:Int) [32,100,111,32]) (C8.L:Int) (aF t (C8.a:Int) [32,100,111,32] C8.bad)),⟨?_,⟨⟨trivial,⟨trivial,⟨trivial,trivial⟩⟩⟩,⟨⟨rfl,⟨?_,⟨?_,⟨?_,trivial⟩⟩⟩⟩,⟨⟨rfl,⟨rfl,⟨rfl,⟨rfl,⟨trivial,⟨trivial,trivial⟩⟩⟩⟩⟩⟩,⟨rfl,⟨?_,⟨⟨rfl,⟨rfl,⟨rfl,⟨rfl,⟨trivial,⟨trivial,trivial⟩⟩⟩⟩⟩⟩,trivial⟩⟩⟩⟩⟩⟩⟩⟩⟩,⟨⟨(PR t (O t (C8.a:Int) [32,100,111,32]) (C8.L:Int) (aF t (C8.a:Int) [32,100,111,32] C8.bad)),⟨?_,⟨⟨trivial,⟨trivial,⟨trivial,trivial⟩⟩⟩,⟨⟨rfl,⟨?_,⟨?_,⟨?_,trivial⟩⟩⟩⟩,⟨⟨rfl,⟨rfl,⟨rfl,⟨rfl,⟨trivial,⟨trivial,trivial⟩⟩⟩⟩⟩⟩,⟨rfl,⟨?_,⟨⟨rfl,⟨rfl,⟨rfl,⟨rfl,⟨trivial,⟨trivial,trivial⟩⟩⟩⟩⟩⟩,trivial⟩⟩⟩⟩⟩⟩⟩⟩,trivial⟩⟩⟩⟩,⟨⟨?_,⟨(PR t (O t (C8.a:Int) [32,100,111,32]) (C8.L:Int) (aF t (C8.a:Int) [32,100,111,32] C8.bad)),⟨?_,⟨⟨trivial,⟨trivial,⟨trivial,trivial⟩⟩⟩,⟨⟨rfl,⟨?_,⟨?_,⟨?_,trivial⟩⟩⟩⟩,⟨⟨rfl,⟨rfl,⟨rfl,⟨rfl,⟨trivial,⟨trivial,trivial⟩⟩⟩⟩⟩⟩,⟨rfl,⟨?_,⟨⟨rfl,⟨rfl,⟨rfl,⟨rfl,⟨trivial,⟨trivial,trivial⟩⟩⟩⟩⟩⟩,trivial⟩⟩⟩⟩⟩⟩⟩⟩⟩,trivial⟩⟩⟩⟩⟩⟩⟩,⟨λ KS=>⟨⟨?_,?_⟩,⟨?_,⟨?_,⟨⟨?_,?_⟩,⟨⟨?_,⟨⟨?_,?_⟩,⟨⟨⟨?_,?_⟩,⟨(PR t (O t (C8.a:Int) [32,100,111,32]) (C8.L:Int) (aF t (C8.a:Int) [32,100,111,32] C8.bad)),⟨?_,⟨⟨trivial,⟨trivial,⟨trivial,trivial⟩⟩⟩,⟨⟨rfl,⟨?_,⟨?_,⟨?_,trivial⟩⟩⟩⟩,⟨⟨rfl,⟨rfl,⟨rfl,⟨rfl,⟨trivial,⟨trivial,trivial⟩⟩⟩⟩⟩⟩,⟨rfl,⟨?_,⟨⟨rfl,⟨rfl,⟨rfl,⟨rfl,⟨trivial,⟨trivial,trivial⟩⟩⟩⟩⟩⟩,trivial⟩⟩⟩⟩⟩⟩⟩⟩⟩,⟨⟨(PR t (O t (C8.a:Int) [32,100,111,32]) (C8.L:Int) (aF t (C8.a:Int) [32,100,111,32] C8.bad)),⟨?_,⟨⟨trivial,⟨trivial,⟨trivial,trivial⟩⟩⟩,⟨⟨rfl,⟨?_,⟨?_,⟨?_,trivial⟩⟩⟩⟩,⟨⟨rfl,⟨rfl,⟨rfl,⟨rfl,⟨trivial,⟨trivial,trivial⟩⟩⟩⟩⟩⟩,⟨rfl,⟨?_,⟨⟨rfl,⟨rfl,⟨rfl,⟨rfl,⟨trivial,⟨trivial,trivial⟩⟩⟩⟩⟩⟩,trivial⟩⟩⟩⟩⟩⟩⟩⟩,trivial⟩⟩⟩⟩,⟨⟨?_,⟨(PR t (O t (C8.a:Int) [32,100,111,32]) (C8.L:Int) (aF t (C8.a:Int) [32,100,111,32] C8.bad)),⟨?_,⟨⟨trivial,⟨trivial,⟨trivial,trivial⟩⟩⟩,⟨⟨rfl,⟨?_,⟨?_,⟨?_,trivial⟩⟩⟩⟩,⟨⟨rfl,⟨rfl,⟨rfl,⟨rfl,⟨trivial,⟨trivial,trivial⟩⟩⟩⟩⟩⟩,⟨rfl,⟨?_,⟨⟨rfl,⟨rfl,⟨rfl,⟨rfl,⟨trivial,⟨trivial,trivial⟩⟩⟩⟩⟩⟩,trivial⟩⟩⟩⟩⟩⟩⟩⟩⟩,trivial⟩⟩⟩⟩⟩⟩,trivial⟩⟩⟩⟩⟩,trivial⟩⟩⟩⟩⟩⟩,λ X9=>λ KS=>⟨?_,⟨(),⟨?_,⟨⟨trivial,⟨trivial,⟨trivial,trivial⟩⟩⟩,⟨⟨rfl,⟨?_,⟨?_,⟨?_,trivial⟩⟩⟩⟩,⟨⟨?_,⟨?_,⟨?_,⟨?_,⟨trivial,⟨trivial,trivial⟩⟩⟩⟩⟩⟩,⟨?_,⟨?_,⟨⟨rfl,⟨rfl,⟨rfl,⟨rfl,⟨trivial,⟨trivial,trivial⟩⟩⟩⟩⟩⟩,trivial⟩⟩⟩⟩⟩⟩⟩⟩⟩⟩⟩⟩⟩,λ P8=>⟨(),⟨?_,⟨⟨trivial,⟨trivial,⟨trivial,trivial⟩⟩⟩,⟨⟨rfl,⟨?_,⟨?_,⟨?_,trivial⟩⟩⟩⟩,⟨⟨?_,⟨?_,⟨?_,⟨?_,⟨trivial,⟨trivial,trivial⟩⟩⟩⟩⟩⟩,⟨?_,⟨?_,⟨⟨rfl,⟨rfl,⟨rfl,⟨rfl,⟨trivial,⟨trivial,trivial⟩⟩⟩⟩⟩⟩,trivial⟩⟩⟩⟩⟩⟩⟩⟩⟩⟩⟩⟩⟩⟩⟩⟩⟩⟩⟩⟩⟩⟩,λ u1=>λ a4=>λ a5=>⟨?_,⟨?_,⟨⟨rfl,⟨rfl,⟨?_,rfl⟩⟩⟩,trivial⟩⟩⟩⟩⟩,λ a1=>⟨λ a2=>⟨?_,⟨⟨rfl,⟨?_,⟨?_,?_⟩⟩⟩,trivial⟩⟩,λ a2=>⟨⟨⟨?_,⟨(),⟨?_,⟨⟨trivial,⟨trivial,⟨trivial,⟨?_,trivial⟩⟩⟩⟩,⟨⟨rfl,⟨rfl,⟨?_,⟨rfl,trivial⟩⟩⟩⟩,⟨⟨rfl,⟨rfl,⟨rfl,⟨rfl,⟨trivial,⟨trivial,trivial⟩⟩⟩⟩⟩⟩,⟨⟨rfl,⟨rfl,⟨rfl,⟨rfl,⟨trivial,⟨trivial,trivial⟩⟩⟩⟩⟩⟩,trivial⟩⟩⟩⟩⟩⟩⟩,λ u1=>λ a3=>⟨λ a4=>⟨?_,⟨(),⟨?_,⟨⟨trivial,⟨trivial,⟨trivial,trivial⟩⟩⟩,⟨⟨rfl,⟨?_,⟨?_,⟨?_,trivial⟩⟩⟩⟩,⟨⟨?_,⟨?_,⟨?_,⟨?_,⟨trivial,⟨trivial,trivial⟩⟩⟩⟩⟩⟩,⟨?_,⟨?_,⟨⟨rfl,⟨rfl,⟨rfl,⟨rfl,⟨trivial,⟨trivial,trivial⟩⟩⟩⟩⟩⟩,trivial⟩⟩⟩⟩⟩⟩⟩⟩⟩,λ a4=>⟨⟨?_,⟨(),⟨?_,⟨⟨trivial,⟨trivial,⟨trivial,⟨?_,trivial⟩⟩⟩⟩,⟨⟨rfl,⟨rfl,⟨rfl,⟨rfl,trivial⟩⟩⟩⟩,⟨⟨rfl,⟨rfl,⟨rfl,⟨rfl,⟨trivial,⟨trivial,trivial⟩⟩⟩⟩⟩⟩,⟨⟨rfl,⟨rfl,⟨rfl,⟨rfl,⟨trivial,⟨trivial,trivial⟩⟩⟩⟩⟩⟩,trivial⟩⟩⟩⟩⟩⟩⟩,λ u2=>λ a5=>⟨λ a6=>⟨?_,⟨(),⟨?_,⟨⟨trivial,⟨trivial,⟨trivial,trivial⟩⟩⟩,⟨⟨rfl,⟨?_,⟨?_,⟨?_,trivial⟩⟩⟩⟩,⟨⟨?_,⟨?_,⟨?_,⟨?_,⟨trivial,⟨trivial,trivial⟩⟩⟩⟩⟩⟩,⟨?_,⟨?_,⟨⟨rfl,⟨rfl,⟨rfl,⟨rfl,⟨trivial,⟨trivial,trivial⟩⟩⟩⟩⟩⟩,trivial⟩⟩⟩⟩⟩⟩⟩⟩⟩,λ a6=>⟨⟨?_,⟨(),⟨?_,⟨⟨trivial,⟨trivial,⟨trivial,⟨?_,trivial⟩⟩⟩⟩,⟨⟨rfl,⟨rfl,⟨rfl,⟨rfl,trivial⟩⟩⟩⟩,⟨⟨rfl,⟨rfl,⟨rfl,⟨rfl,⟨trivial,⟨trivial,trivial⟩⟩⟩⟩⟩⟩,⟨⟨rfl,⟨rfl,⟨rfl,⟨rfl,⟨trivial,⟨trivial,trivial⟩⟩⟩⟩⟩⟩,trivial⟩⟩⟩⟩⟩⟩⟩,λ u3=>λ a7=>⟨λ a8=>⟨?_,⟨?_,⟨(),⟨?_,⟨⟨trivial,⟨trivial,⟨trivial,trivial⟩⟩⟩,⟨⟨rfl,⟨?_,⟨?_,⟨?_,trivial⟩⟩⟩⟩,⟨⟨?_,⟨?_,⟨?_,⟨?_,⟨trivial,⟨trivial,trivial⟩⟩⟩⟩⟩⟩,⟨?_,⟨?_,⟨⟨rfl,⟨rfl,⟨rfl,⟨rfl,⟨trivial,⟨trivial,trivial⟩⟩⟩⟩⟩⟩,trivial⟩⟩⟩⟩⟩⟩⟩⟩⟩⟩,λ a8=>⟨⟨?_,⟨(),⟨?_,⟨⟨trivial,⟨trivial,⟨trivial,⟨?_,trivial⟩⟩⟩⟩,⟨⟨rfl,⟨rfl,⟨rfl,⟨rfl,trivial⟩⟩⟩⟩,⟨⟨rfl,⟨rfl,⟨rfl,⟨rfl,⟨trivial,⟨trivial,trivial⟩⟩⟩⟩⟩⟩,⟨⟨rfl,⟨rfl,⟨rfl,⟨rfl,⟨trivial,⟨trivial,trivial⟩⟩⟩⟩⟩⟩,trivial⟩⟩⟩⟩⟩⟩⟩,λ u4=>λ a9=>⟨λ gl=>⟨?_,λ jn=>⟨(),⟨?_,⟨⟨trivial,⟨trivial,⟨trivial,trivial⟩⟩⟩,⟨⟨rfl,⟨?_,⟨?_,⟨?_,trivial⟩⟩⟩⟩,⟨⟨?_,⟨?_,⟨?_,⟨?_,⟨trivial,⟨trivial,trivial⟩⟩⟩⟩⟩⟩,⟨?_,⟨?_,⟨⟨rfl,⟨rfl,⟨rfl,⟨rfl,⟨trivial,⟨trivial,trivial⟩⟩⟩⟩⟩⟩,trivial⟩⟩⟩⟩⟩⟩⟩⟩⟩,λ gl=>⟨⟨?_,⟨(),⟨?_,⟨⟨trivial,⟨trivial,⟨trivial,⟨?_,trivial⟩⟩⟩⟩,⟨⟨rfl,⟨rfl,⟨rfl,⟨rfl,trivial⟩⟩⟩⟩,⟨⟨rfl,⟨rfl,⟨rfl,⟨rfl,⟨trivial,⟨trivial,trivial⟩⟩⟩⟩⟩⟩,⟨⟨rfl,⟨rfl,⟨rfl,⟨rfl,⟨trivial,⟨trivial,trivial⟩⟩⟩⟩⟩⟩,trivial⟩⟩⟩⟩⟩⟩⟩,λ u5=>λ jn=>⟨λ a12=>⟨?_,⟨(),⟨?_,⟨⟨trivial,⟨trivial,⟨trivial,trivial⟩⟩⟩,⟨⟨rfl,⟨?_,⟨?_,⟨?_,trivial⟩⟩⟩⟩,⟨⟨?_,⟨?_,⟨?_,⟨?_,⟨trivial,⟨trivial,trivial⟩⟩⟩⟩⟩⟩,⟨?_,⟨?_,⟨⟨rfl,⟨rfl,⟨rfl,⟨rfl,⟨trivial,⟨trivial,trivial⟩⟩⟩⟩⟩⟩,trivial⟩⟩⟩⟩⟩⟩⟩⟩⟩,λ a12=>⟨⟨?_,⟨(),⟨?_,⟨⟨trivial,⟨trivial,⟨trivial,⟨?_,trivial⟩⟩⟩⟩,⟨⟨rfl,⟨rfl,⟨rfl,⟨rfl,trivial⟩⟩⟩⟩,⟨⟨rfl,⟨rfl,⟨rfl,⟨rfl,⟨trivial,⟨trivial,trivial⟩⟩⟩⟩⟩⟩,⟨⟨rfl,⟨rfl,⟨rfl,⟨rfl,⟨trivial,⟨trivial,trivial⟩⟩⟩⟩⟩⟩,trivial⟩⟩⟩⟩⟩⟩⟩,λ u6=>λ vB=>⟨λ sN=>⟨?_,⟨⟨?_,⟨(aS t (O t a [105,102,32]) (L+1) (aF t a [105,102,32] bad)),⟨?_,⟨⟨trivial,⟨trivial,⟨trivial,trivial⟩⟩⟩,⟨⟨rfl,⟨?_,⟨?_,⟨?_,trivial⟩⟩⟩⟩,⟨⟨rfl,⟨rfl,⟨?_,⟨?_,⟨trivial,⟨trivial,trivial⟩⟩⟩⟩⟩⟩,⟨?_,⟨⟨rfl,⟨rfl,⟨rfl,⟨rfl,⟨trivial,⟨trivial,trivial⟩⟩⟩⟩⟩⟩,trivial⟩⟩⟩⟩⟩⟩⟩⟩,λ C7=>λ KR=>⟨?_,⟨(),⟨?_,⟨⟨trivial,⟨trivial,⟨trivial,trivial⟩⟩⟩,⟨⟨rfl,⟨?_,⟨?_,⟨?_,trivial⟩⟩⟩⟩,⟨⟨?_,⟨?_,⟨?_,⟨?_,⟨trivial,⟨trivial,trivial⟩⟩⟩⟩⟩⟩,⟨?_,⟨?_,⟨⟨rfl,⟨rfl,⟨rfl,⟨rfl,⟨trivial,⟨trivial,trivial⟩⟩⟩⟩⟩⟩,trivial⟩⟩⟩⟩⟩⟩⟩⟩⟩⟩⟩,λ sN=>⟨⟨?_,⟨(),⟨?_,⟨⟨trivial,⟨trivial,⟨trivial,⟨?_,trivial⟩⟩⟩⟩,⟨⟨rfl,⟨rfl,⟨rfl,⟨rfl,trivial⟩⟩⟩⟩,⟨⟨rfl,⟨rfl,⟨rfl,⟨rfl,⟨trivial,⟨trivial,trivial⟩⟩⟩⟩⟩⟩,⟨⟨rfl,⟨rfl,⟨rfl,⟨rfl,⟨trivial,⟨trivial,trivial⟩⟩⟩⟩⟩⟩,trivial⟩⟩⟩⟩⟩⟩⟩,λ u7=>λ KR=>⟨λ FI=>⟨?_,⟨⟨?_,⟨(aS t (O t a [119,104,105,108,101,32]) (L+1) (aF t a [119,104,105,108,101,32] bad)),⟨?_,⟨⟨trivial,⟨trivial,⟨trivial,trivial⟩⟩⟩,⟨⟨rfl,⟨?_,⟨?_,⟨?_,trivial⟩⟩⟩⟩,⟨⟨rfl,⟨rfl,⟨?_,⟨?_,⟨trivial,⟨trivial,trivial⟩⟩⟩⟩⟩⟩,⟨?_,⟨⟨rfl,⟨rfl,⟨rfl,⟨rfl,⟨trivial,⟨trivial,trivial⟩⟩⟩⟩⟩⟩,trivial⟩⟩⟩⟩⟩⟩⟩⟩,λ C8=>λ P8=>⟨?_,⟨⟨⟨?_,?_⟩,⟨?_,⟨⟨?_,?_⟩,⟨⟨?_,⟨⟨?_,?_⟩,⟨?_,⟨λ HQ=>⟨?_,⟨⟨?_,?_⟩,⟨⟨?_,⟨⟨?_,?_⟩,⟨⟨⟨?_,?_⟩,⟨(PR t (O t (C8.a:Int) [32,100,111,32]) (C8.L:Int) (aF t (C8.a:Int) [32,100,111,32] C8.bad)),⟨?_,⟨⟨trivial,⟨trivial,⟨trivial,trivial⟩⟩⟩,⟨⟨rfl,⟨?_,⟨?_,⟨?_,trivial⟩⟩⟩⟩,⟨⟨rfl,⟨rfl,⟨rfl,⟨rfl,⟨trivial,⟨trivial,trivial⟩⟩⟩⟩⟩⟩,⟨rfl,⟨?_,⟨⟨rfl,⟨rfl,⟨rfl,⟨rfl,⟨trivial,⟨trivial,trivial⟩⟩⟩⟩⟩⟩,trivial⟩⟩⟩⟩⟩⟩⟩⟩⟩,⟨⟨(PR t (O t (C8.a:Int) [32,100,111,32]) (C8.L:Int) (aF t (C8.a:Int) [32,100,111,32] C8.bad)),⟨?_,⟨⟨trivial,⟨trivial,⟨trivial,trivial⟩⟩⟩,⟨⟨rfl,⟨?_,⟨?_,⟨?_,trivial⟩⟩⟩⟩,⟨⟨rfl,⟨rfl,⟨rfl,⟨rfl,⟨trivial,⟨trivial,trivial⟩⟩⟩⟩⟩⟩,⟨rfl,⟨?_,⟨⟨rfl,⟨rfl,⟨rfl,⟨rfl,⟨trivial,⟨trivial,trivial⟩⟩⟩⟩⟩⟩,trivial⟩⟩⟩⟩⟩⟩⟩⟩,trivial⟩⟩⟩⟩,⟨⟨?_,⟨(PR t (O t (C8.a:Int) [32,100,111,32]) (C8.L:Int) (aF t (C8.a:Int) [32,100,111,32] C8.bad)),⟨?_,⟨⟨trivial,⟨trivial,⟨trivial,trivial⟩⟩⟩,⟨⟨rfl,⟨?_,⟨?_,⟨?_,trivial⟩⟩⟩⟩,⟨⟨rfl,⟨rfl,⟨rfl,⟨rfl,⟨trivial,⟨trivial,trivial⟩⟩⟩⟩⟩⟩,⟨rfl,⟨?_,⟨⟨rfl,⟨rfl,⟨rfl,⟨rfl,⟨trivial,⟨trivial,trivial⟩⟩⟩⟩⟩⟩,trivial⟩⟩⟩⟩⟩⟩⟩⟩⟩,trivial⟩⟩⟩⟩,⟨⟨⟨?_,?_⟩,⟨?_,λ HQ=>⟨?_,⟨⟨?_,?_⟩,⟨⟨?_,⟨⟨?_,?_⟩,⟨⟨⟨?_,?_⟩,⟨(PR t (O t (C8.a:Int) [32,100,111,32]) (C8.L:Int) (aF t (C8.a:Int) [32,100,111,32] C8.bad)),⟨?_,⟨⟨trivial,⟨trivial,⟨trivial,trivial⟩⟩⟩,⟨⟨rfl,⟨?_,⟨?_,⟨?_,trivial⟩⟩⟩⟩,⟨⟨rfl,⟨rfl,⟨rfl,⟨rfl,⟨trivial,⟨trivial,trivial⟩⟩⟩⟩⟩⟩,⟨rfl,⟨?_,⟨⟨rfl,⟨rfl,⟨rfl,⟨rfl,⟨trivial,⟨trivial,trivial⟩⟩⟩⟩⟩⟩,trivial⟩⟩⟩⟩⟩⟩⟩⟩⟩,⟨⟨(PR t (O t (C8.a:Int) [32,100,111,32]) (C8.L:Int) (aF t (C8.a:Int) [32,100,111,32] C8.bad)),⟨?_,⟨⟨trivial,⟨trivial,⟨trivial,trivial⟩⟩⟩,⟨⟨rfl,⟨?_,⟨?_,⟨?_,trivial⟩⟩⟩⟩,⟨⟨rfl,⟨rfl,⟨rfl,⟨rfl,⟨trivial,⟨trivial,trivial⟩⟩⟩⟩⟩⟩,⟨rfl,⟨?_,⟨⟨rfl,⟨rfl,⟨rfl,⟨rfl,⟨trivial,⟨trivial,trivial⟩⟩⟩⟩⟩⟩,trivial⟩⟩⟩⟩⟩⟩⟩⟩,trivial⟩⟩⟩⟩,⟨⟨?_,⟨(PR t (O t (C8.a:Int) [32,100,111,32]) (C8.L:Int) (aF t (C8.a:Int) [32,100,111,32] C8.bad)),⟨?_,⟨⟨trivial,⟨trivial,⟨trivial,trivial⟩⟩⟩,⟨⟨rfl,⟨?_,⟨?_,⟨?_,trivial⟩⟩⟩⟩,⟨⟨rfl,⟨rfl,⟨rfl,⟨rfl,⟨trivial,⟨trivial,trivial⟩⟩⟩⟩⟩⟩,⟨rfl,⟨?_,⟨⟨rfl,⟨rfl,⟨rfl,⟨rfl,⟨trivial,⟨trivial,trivial⟩⟩⟩⟩⟩⟩,trivial⟩⟩⟩⟩⟩⟩⟩⟩⟩,trivial⟩⟩⟩⟩⟩⟩,trivial⟩⟩⟩⟩⟩,⟨λ HQ=>⟨⟨?_,?_⟩,⟨⟨?_,⟨?_,⟨⟨?_,?_⟩,⟨⟨?_,⟨⟨?_,?_⟩,⟨⟨⟨?_,?_⟩,⟨(PR t (O t (C8.a:Int) [32,100,111,32]) (C8.L:Int) (aF t (C8.a:Int) [32,100,111,32] C8.bad)),⟨?_,⟨⟨trivial,⟨trivial,⟨trivial,trivial⟩⟩⟩,⟨⟨rfl,⟨?_,⟨?_,⟨?_,trivial⟩⟩⟩⟩,⟨⟨rfl,⟨rfl,⟨rfl,⟨rfl,⟨trivial,⟨trivial,trivial⟩⟩⟩⟩⟩⟩,⟨rfl,⟨?_,⟨⟨rfl,⟨rfl,⟨rfl,⟨rfl,⟨trivial,⟨trivial,trivial⟩⟩⟩⟩⟩⟩,trivial⟩⟩⟩⟩⟩⟩⟩⟩⟩,⟨⟨(PR t (O t (C8.a:Int) [32,100,111,32]) (C8.L:Int) (aF t (C8.a:Int) [32,100,111,32] C8.bad)),⟨?_,⟨⟨trivial,⟨trivial,⟨trivial,trivial⟩⟩⟩,⟨⟨rfl,⟨?_,⟨?_,⟨?_,trivial⟩⟩⟩⟩,⟨⟨rfl,⟨rfl,⟨rfl,⟨rfl,⟨trivial,⟨trivial,trivial⟩⟩⟩⟩⟩⟩,⟨rfl,⟨?_,⟨⟨rfl,⟨rfl,⟨rfl,⟨rfl,⟨trivial,⟨trivial,trivial⟩⟩⟩⟩⟩⟩,trivial⟩⟩⟩⟩⟩⟩⟩⟩,trivial⟩⟩⟩⟩,⟨⟨?_,⟨(PR t (O t (C8.a:Int) [32,100,111,32]) (C8.L:Int) (aF t (C8.a:Int) [32,100,111,32] C8.bad)),⟨?_,⟨⟨trivial,⟨trivial,⟨trivial,trivial⟩⟩⟩,⟨⟨rfl,⟨?_,⟨?_,⟨?_,trivial⟩⟩⟩⟩,⟨⟨rfl,⟨rfl,⟨rfl,⟨rfl,⟨trivial,⟨trivial,trivial⟩⟩⟩⟩⟩⟩,⟨rfl,⟨?_,⟨⟨rfl,⟨rfl,⟨rfl,⟨rfl,⟨trivial,⟨trivial,trivial⟩⟩⟩⟩⟩⟩,trivial⟩⟩⟩⟩⟩⟩⟩⟩⟩,trivial⟩⟩⟩⟩⟩,⟨⟨⟨?_,?_⟩,⟨?_,⟨?_,⟨⟨?_,?_⟩,⟨⟨?_,⟨⟨?_,?_⟩,⟨⟨⟨?_,?_⟩,⟨(PR t (O t (C8.a:Int) [32,100,111,32]) (C8.L:Int) (aF t (C8.a:Int) [32,100,111,32] C8.bad)),⟨?_,⟨⟨trivial,⟨trivial,⟨trivial,trivial⟩⟩⟩,⟨⟨rfl,⟨?_,⟨?_,⟨?_,trivial⟩⟩⟩⟩,⟨⟨rfl,⟨rfl,⟨rfl,⟨rfl,⟨trivial,⟨trivial,trivial⟩⟩⟩⟩⟩⟩,⟨rfl,⟨?_,⟨⟨rfl,⟨rfl,⟨rfl,⟨rfl,⟨trivial,⟨trivial,trivial⟩⟩⟩⟩⟩⟩,trivial⟩⟩⟩⟩⟩⟩⟩⟩⟩,⟨⟨(PR t (O t (C8.a:Int) [32,100,111,32]) (C8.L:Int) (aF t (C8.a:Int) [32,100,111,32] C8.bad)),⟨?_,⟨⟨trivial,⟨trivial,⟨trivial,trivial⟩⟩⟩,⟨⟨rfl,⟨?_,⟨?_,⟨?_,trivial⟩⟩⟩⟩,⟨⟨rfl,⟨rfl,⟨rfl,⟨rfl,⟨trivial,⟨trivial,trivial⟩⟩⟩⟩⟩⟩,⟨rfl,⟨?_,⟨⟨rfl,⟨rfl,⟨rfl,⟨rfl,⟨trivial,⟨trivial,trivial⟩⟩⟩⟩⟩⟩,trivial⟩⟩⟩⟩⟩⟩⟩⟩,trivial⟩⟩⟩⟩,⟨⟨?_,⟨(PR t (O t (C8.a:Int) [32,100,111,32]) (C8.L:Int) (aF t (C8.a:Int) [32,100,111,32] C8.bad)),⟨?_,⟨⟨trivial,⟨trivial,⟨trivial,trivial⟩⟩⟩,⟨⟨rfl,⟨?_,⟨?_,⟨?_,trivial⟩⟩⟩⟩,⟨⟨rfl,⟨rfl,⟨rfl,⟨rfl,⟨trivial,⟨trivial,trivial⟩⟩⟩⟩⟩⟩,⟨rfl,⟨?_,⟨⟨rfl,⟨rfl,⟨rfl,⟨rfl,⟨trivial,⟨trivial,trivial⟩⟩⟩⟩⟩⟩,trivial⟩⟩⟩⟩⟩⟩⟩⟩⟩,trivial⟩⟩⟩⟩⟩⟩,trivial⟩⟩⟩,⟨⟨⟨?_,?_⟩,⟨?_,⟨⟨?_,?_⟩,⟨⟨?_,⟨⟨?_,?_⟩,⟨?_,λ HQ=>⟨?_,⟨⟨?_,?_⟩,⟨⟨?_,⟨⟨?_,?_⟩,⟨⟨⟨?_,?_⟩,⟨(PR t (O t (C8.a:Int) [32,100,111,32]) (C8.L:Int) (aF t (C8.a:Int) [32,100,111,32] C8.bad)),⟨?_,⟨⟨trivial,⟨trivial,⟨trivial,trivial⟩⟩⟩,⟨⟨rfl,⟨?_,⟨?_,⟨?_,trivial⟩⟩⟩⟩,⟨⟨rfl,⟨rfl,⟨rfl,⟨rfl,⟨trivial,⟨trivial,trivial⟩⟩⟩⟩⟩⟩,⟨rfl,⟨?_,⟨⟨rfl,⟨rfl,⟨rfl,⟨rfl,⟨trivial,⟨trivial,trivial⟩⟩⟩⟩⟩⟩,trivial⟩⟩⟩⟩⟩⟩⟩⟩⟩,⟨⟨(PR t (O t (C8.a:Int) [32,100,111,32]) (C8.L:Int) (aF t (C8.a:Int) [32,100,111,32] C8.bad)),⟨?_,⟨⟨trivial,⟨trivial,⟨trivial,trivial⟩⟩⟩,⟨⟨rfl,⟨?_,⟨?_,⟨?_,trivial⟩⟩⟩⟩,⟨⟨rfl,⟨rfl,⟨rfl,⟨rfl,⟨trivial,⟨trivial,trivial⟩⟩⟩⟩⟩⟩,⟨rfl,⟨?_,⟨⟨rfl,⟨rfl,⟨rfl,⟨rfl,⟨trivial,⟨trivial,trivial⟩⟩⟩⟩⟩⟩,trivial⟩⟩⟩⟩⟩⟩⟩⟩,trivial⟩⟩⟩⟩,⟨⟨?_,⟨(PR t (O t (C8.a:Int) [32,100,111,32]) (C8.L:Int) (aF t (C8.a:Int) [32,100,111,32] C8.bad)),⟨?_,⟨⟨trivial,⟨trivial,⟨trivial,trivial⟩⟩⟩,⟨⟨rfl,⟨?_,⟨?_,⟨?_,trivial⟩⟩⟩⟩,⟨⟨rfl,⟨rfl,⟨rfl,⟨rfl,⟨trivial,⟨trivial,trivial⟩⟩⟩⟩⟩⟩,⟨rfl,⟨?_,⟨⟨rfl,⟨rfl,⟨rfl,⟨rfl,⟨trivial,⟨trivial,trivial⟩⟩⟩⟩⟩⟩,trivial⟩⟩⟩⟩⟩⟩⟩⟩⟩,trivial⟩⟩⟩⟩⟩⟩⟩,⟨λ HQ=>⟨⟨?_,?_⟩,⟨?_,⟨?_,⟨⟨?_,?_⟩,⟨⟨?_,⟨⟨?_,?_⟩,⟨⟨⟨?_,?_⟩,⟨(PR t (O t (C8.a:Int) [32,100,111,32]) (C8.L:Int) (aF t (C8.a:Int) [32,100,111,32] C8.bad)),⟨?_,⟨⟨trivial,⟨trivial,⟨trivial,trivial⟩⟩⟩,⟨⟨rfl,⟨?_,⟨?_,⟨?_,trivial⟩⟩⟩⟩,⟨⟨rfl,⟨rfl,⟨rfl,⟨rfl,⟨trivial,⟨trivial,trivial⟩⟩⟩⟩⟩⟩,⟨rfl,⟨?_,⟨⟨rfl,⟨rfl,⟨rfl,⟨rfl,⟨trivial,⟨trivial,trivial⟩⟩⟩⟩⟩⟩,trivial⟩⟩⟩⟩⟩⟩⟩⟩⟩,⟨⟨(PR t (O t (C8.a:Int) [32,100,111,32]) (C8.L:Int) (aF t (C8.a:Int) [32,100,111,32] C8.bad)),⟨?_,⟨⟨trivial,⟨trivial,⟨trivial,trivial⟩⟩⟩,⟨⟨rfl,⟨?_,⟨?_,⟨?_,trivial⟩⟩⟩⟩,⟨⟨rfl,⟨rfl,⟨rfl,⟨rfl,⟨trivial,⟨trivial,trivial⟩⟩⟩⟩⟩⟩,⟨rfl,⟨?_,⟨⟨rfl,⟨rfl,⟨rfl,⟨rfl,⟨trivial,⟨trivial,trivial⟩⟩⟩⟩⟩⟩,trivial⟩⟩⟩⟩⟩⟩⟩⟩,trivial⟩⟩⟩⟩,⟨⟨?_,⟨(PR t (O t (C8.a:Int) [32,100,111,32]) (C8.L:Int) (aF t (C8.a:Int) [32,100,111,32] C8.bad)),⟨?_,⟨⟨trivial,⟨trivial,⟨trivial,trivial⟩⟩⟩,⟨⟨rfl,⟨?_,⟨?_,⟨?_,trivial⟩⟩⟩⟩,⟨⟨rfl,⟨rfl,⟨rfl,⟨rfl,⟨trivial,⟨trivial,trivial⟩⟩⟩⟩⟩⟩,⟨rfl,⟨?_,⟨⟨rfl,⟨rfl,⟨rfl,⟨rfl,⟨trivial,⟨trivial,trivial⟩⟩⟩⟩⟩⟩,trivial⟩⟩⟩⟩⟩⟩⟩⟩⟩,trivial⟩⟩⟩⟩⟩⟩,trivial⟩⟩⟩⟩⟩,trivial⟩⟩⟩⟩⟩⟩,λ X9=>λ HQ=>⟨?_,⟨(),⟨?_,⟨⟨trivial,⟨trivial,⟨trivial,trivial⟩⟩⟩,⟨⟨rfl,⟨?_,⟨?_,⟨?_,trivial⟩⟩⟩⟩,⟨⟨?_,⟨?_,⟨?_,⟨?_,⟨trivial,⟨trivial,trivial⟩⟩⟩⟩⟩⟩,⟨?_,⟨?_,⟨⟨rfl,⟨rfl,⟨rfl,⟨rfl,⟨trivial,⟨trivial,trivial⟩⟩⟩⟩⟩⟩,trivial⟩⟩⟩⟩⟩⟩⟩⟩⟩⟩⟩⟩⟩,λ FI=>⟨(),⟨?_,⟨⟨trivial,⟨trivial,⟨trivial,trivial⟩⟩⟩,⟨⟨rfl,⟨?_,⟨?_,⟨?_,trivial⟩⟩⟩⟩,⟨⟨?_,⟨?_,⟨?_,⟨?_,⟨trivial,⟨trivial,trivial⟩⟩⟩⟩⟩⟩,⟨?_,⟨?_,⟨⟨rfl,⟨rfl,⟨rfl,⟨rfl,⟨trivial,⟨trivial,trivial⟩⟩⟩⟩⟩⟩,trivial⟩⟩⟩⟩⟩⟩⟩⟩⟩⟩⟩⟩⟩⟩⟩⟩⟩⟩⟩⟩⟩⟩,λ u1=>λ a3=>λ a4=>⟨?_,⟨?_,⟨⟨rfl,⟨rfl,⟨?_,rfl⟩⟩⟩,trivial⟩⟩⟩⟩⟩⟩⟩
 all_goals try and_intros
 all_goals try (first|with_reducible rfl|with_reducible assumption)
 all_goals try simp only[M.eta,ai.eta,aG,bo] at *
 all_goals first|with_reducible rfl|with_reducible assumption|trivial|((try simp only[a1F,a1L,a1Q,a1O,a2k,a2Q,ah] at *);first|with_reducible rfl|trivial|omega|with_reducible assumption|exact n0 (by omega) (by with_reducible assumption)|exact (show NS t a L bad 0 from (by with_reducible assumption)).nx (show aE t a.toNat [115,107,105,112]=false from (by with_reducible assumption)) rfl|exact (show NS t a L bad 1 from (by with_reducible assumption)).nx (show aE t a.toNat [102,97,105,108]=false from (by with_reducible assumption)) rfl|exact (show NS t a L bad 2 from (by with_reducible assumption)).nx (show aE t a.toNat [97,115,115,101,114,116,32]=false from (by with_reducible assumption)) rfl|exact (show NS t a L bad 3 from (by with_reducible assumption)).nx (show aE t a.toNat [97]=false from (by with_reducible assumption)) rfl|exact (show NS t a L bad 4 from (by with_reducible assumption)).nx (show aE t a.toNat [123]=false from (by with_reducible assumption)) rfl|exact (show NS t a L bad 5 from (by with_reducible assumption)).nx (show aE t a.toNat [105,102,32]=false from (by with_reducible assumption)) rfl|exact (show NS t a L bad 6 from (by with_reducible assumption)).nx (show aE t a.toNat [119,104,105,108,101,32]=false from (by with_reducible assumption)) rfl|exact (show NS t a L bad _ from (by with_reducible assumption)).pe|(simp only[fI,a1M,a2b];omega)|(obtain⟨r,hr⟩:=(tp _ _ _).1 (show aE t a.toNat [97]=true from (by with_reducible assumption));exact .inr (fH hr))|exact (show NS t a L bad 5 from (by with_reducible assumption)).cs (by with_reducible assumption)|exact (show NS t a L bad 6 from (by with_reducible assumption)).cs (by with_reducible assumption)|exact CS.ws (by with_reducible assumption)|(rw[(show NS t a L bad 0 from (by with_reducible assumption)).w0 (by with_reducible assumption)];first|done|rfl|omega|(simp only[Cs,PB,PA,aG,bo,zX,zQ,ai.eta,M.eta];done)|(simp only[Cs,PB,PA,aG,bo,zX,zQ,ai.eta,M.eta];first|rfl|omega))|(rw[(show NS t a L bad 1 from (by with_reducible assumption)).w1 (by with_reducible assumption)];first|done|rfl|omega|(simp only[Cs,PB,PA,aG,bo,zX,zQ,ai.eta,M.eta];done)|(simp only[Cs,PB,PA,aG,bo,zX,zQ,ai.eta,M.eta];first|rfl|omega))|(rw[(show NS t a L bad 2 from (by with_reducible assumption)).w2 (by with_reducible assumption)];first|done|rfl|omega|(simp only[Cs,PB,PA,aG,bo,zX,zQ,ai.eta,M.eta];done)|(simp only[Cs,PB,PA,aG,bo,zX,zQ,ai.eta,M.eta];first|rfl|omega))|(rw[(show NS t a L bad 3 from (by with_reducible assumption)).w3 (by with_reducible assumption)];first|done|rfl|omega|(simp only[Cs,PB,PA,aG,bo,zX,zQ,ai.eta,M.eta];done)|(simp only[Cs,PB,PA,aG,bo,zX,zQ,ai.eta,M.eta];first|rfl|omega))|(rw[(show NS t a L bad 4 from (by with_reducible assumption)).w4 (by with_reducible assumption)];first|done|rfl|omega|(simp only[Cs,PB,PA,aG,bo,zX,zQ,ai.eta,M.eta];done)|(simp only[Cs,PB,PA,aG,bo,zX,zQ,ai.eta,M.eta];first|rfl|omega))|(rw[((show NS t a L bad 6 from (by with_reducible assumption)).nx (show aE t a.toNat [119,104,105,108,101,32]=false from (by with_reducible assumption)) rfl).end];first|done|rfl|omega)|(have h:NS t a L bad _:=(by with_reducible assumption);first|exact (h.nj _).1|exact (h.nj _).2|exact h.hl|(have:=h.d0;have:=h.d1;have:=h.hl;have:=h.h0;have:=h.h1;first|omega|(have:=h.ex [97,115,115,101,114,116,32] (aF t a [97,115,115,101,114,116,32] bad);have:=h.ex [105,102,32] (aF t a [105,102,32] bad);have:=h.ex [119,104,105,108,101,32] (aF t a [119,104,105,108,101,32] bad);omega)))|(have h:CS t a L bad _ _ _:=(by with_reducible assumption);first|exact (h.nj _).1|exact (h.nj _).2|exact h.ns.hl|exact h.ns.pe|(have:=h.ns.d0;have:=h.ns.d1;have:=h.ns.hl;have:=h.c1;have:=h.c2;have:=h.c3;omega)|(rw[h.w5];simp only[QT,xC,xX,aG,bo,zX,zQ,ai.eta,M.eta];first|done|rfl|omega))|(have h:WS t a L bad _ _:=(by with_reducible assumption);first|exact h.y.a0|exact h.y.a|exact h.cs.ns.pe|(have:=h.cs.ns.d0;have:=h.cs.ns.d1;have:=h.cs.ns.hl;have:=h.cs.c2;have:=h.cs.c3;have:=h.y.lo;have:=h.y.hi;omega)|(rw[h.p];simp only[DF,aG,bo,zX,zQ,ai.eta,M.eta];first|done|rfl|omega))|(have h:FH t a L bad:=(by with_reducible assumption);have:=h.bn;have:=h.d0;omega)|(rw[KQ t a L bad (by first|(left;assumption)|(right;omega))];first|done|rfl|omega))
theorem Ny:∀ n,gO [e8 n,cO n]
 | 0=>⟨⟨aB kI rfl (by decide),λ _ _ _ _ _ _ _ _ _ _ _ _ _ h=>absurd h.1 (a2s _)⟩,⟨aB gV rfl (by decide),λ _ _ _ _ h=>absurd h.1 (a2s _)⟩,trivial⟩
 | n+1=>by
  have ih:=Ny n
  exact⟨xm n trivial trivial trivial ⟨nR,ih.2.1,trivial⟩,xu n trivial trivial trivial ⟨vr,nR,vq,nQ,ih.1,ih.2.1,trivial⟩,trivial⟩
theorem vt:gj.Good hU :=
 ⟨aB gV rfl (by decide),λ t a L bad hp=>(Ny (2 * (1001 - L).toNat+1)).2.1.2 t a L bad (⟨a2l _,hp⟩)⟩
end
end Go.Proofs.YtaaamahdcpcofaaDoor

set_option maxRecDepth 4000
set_option maxHeartbeats 4000000
namespace Go.Proofs.YtaaamahdcpcofaaDoor
noncomputable section
theorem WV(t:List UInt8):PR t 0 0 false=Ae t:=rfl
def aA(gg:bb)(t:List UInt8):ai:=bif cf gg&&decide (t.length<=6000) then Fq gg t else zQ
def en(gg:bb)(t:List UInt8):Int:=bif cf gg then (bif decide (t.length<=6000) then (bif lM gg t then 0 else 5) else 2) else 1
def jW:bu:=⟨sb,[.v (.st .sig), .v .str],λ (gg:bb) (t:List UInt8)=>⟨(none,[⟨(.st .prog),aA gg t⟩,⟨(.int .i64),en gg t⟩])⟩⟩
def wH(gg:bb)(t:List UInt8):Nat->aW:=λ _ => .none
theorem FB(gg:bb)(t:List UInt8):dd (dr [lb,nG,ou] [] [] [20] [] [] [2] [jZ]) (aD iN) (wH gg t) 0 (ti (dr [lb,nG,ou] [] [] [20] [] [] [2] [jZ]) iN λ r=>bR r [⟨(.st .prog),aA gg t⟩,⟨(.int .i64),en gg t⟩]) (z7 iN [.val ⟨(.st .sig),gg⟩, .val ⟨.str,t⟩]) =
 ((((!(cf gg))=true ->
 (zP=(aA gg t)/\(1:Int)=(en gg t)))/\((!(cf gg))=false ->
 (ah ((t.length:Int)) ->
 (((decide ((6000:Int)<((t.length:Int))))=true ->
 (zP=(aA gg t)/\(2:Int)=(en gg t)))/\((decide ((6000:Int)<((t.length:Int))))=false ->
 ((0<=(0:Int)/\(0:Int)<=(t.length:Int)/\t.length<=10000/\0<=(20:Int)/\(20:Int)<=20)/\(((!((PI t (20:Int) (0:Int)).ok))=false ->
 (ah ((PI t (20:Int) (0:Int)).a) ->
 (ah ((t.length:Int)) ->
 (((!(decide (((PI t (20:Int) (0:Int)).a)=((t.length:Int)))))=false ->
 (cf gg=true/\(((!(yr gg (ak ((PI t (20:Int) (0:Int)).p))))=false ->
 ((dW (ak ((PI t (20:Int) (0:Int)).p))/\(cw (ak ((PI t (20:Int) (0:Int)).p))).length<=1000000)/\((cw (ak ((PI t (20:Int) (0:Int)).p))).length<=140737488355328 ->
 (((!decide ((cw (ak ((PI t (20:Int) (0:Int)).p)))=t))=true ->
 (zP=(aA gg t)/\(5:Int)=(en gg t)))/\((!decide ((cw (ak ((PI t (20:Int) (0:Int)).p)))=t))=false ->
 ((ak ((PI t (20:Int) (0:Int)).p))=(aA gg t)/\(0:Int)=(en gg t)))))))/\((!(yr gg (ak ((PI t (20:Int) (0:Int)).p))))=(!false) ->
 ((true=true ->
 (zP=(aA gg t)/\(5:Int)=(en gg t)))/\(true=false ->
 ((ak ((PI t (20:Int) (0:Int)).p))=(aA gg t)/\(0:Int)=(en gg t))))))))/\((!(decide (((PI t (20:Int) (0:Int)).a)=((t.length:Int)))))=(!false) ->
 ((true=false ->
 ((dW (ak ((PI t (20:Int) (0:Int)).p))/\(cw (ak ((PI t (20:Int) (0:Int)).p))).length<=1000000)/\((cw (ak ((PI t (20:Int) (0:Int)).p))).length<=140737488355328 ->
 (((!decide ((cw (ak ((PI t (20:Int) (0:Int)).p)))=t))=true ->
 (zP=(aA gg t)/\(5:Int)=(en gg t)))/\((!decide ((cw (ak ((PI t (20:Int) (0:Int)).p)))=t))=false ->
 ((ak ((PI t (20:Int) (0:Int)).p))=(aA gg t)/\(0:Int)=(en gg t)))))))/\(true=(!false) ->
 ((true=true ->
 (zP=(aA gg t)/\(5:Int)=(en gg t)))/\(true=false ->
 ((ak ((PI t (20:Int) (0:Int)).p))=(aA gg t)/\(0:Int)=(en gg t)))))))))))/\((!((PI t (20:Int) (0:Int)).ok))=(!false) ->
 ((true=false ->
 (cf gg=true/\(((!(yr gg (ak ((PI t (20:Int) (0:Int)).p))))=false ->
 ((dW (ak ((PI t (20:Int) (0:Int)).p))/\(cw (ak ((PI t (20:Int) (0:Int)).p))).length<=1000000)/\((cw (ak ((PI t (20:Int) (0:Int)).p))).length<=140737488355328 ->
 (((!decide ((cw (ak ((PI t (20:Int) (0:Int)).p)))=t))=true ->
 (zP=(aA gg t)/\(5:Int)=(en gg t)))/\((!decide ((cw (ak ((PI t (20:Int) (0:Int)).p)))=t))=false ->
 ((ak ((PI t (20:Int) (0:Int)).p))=(aA gg t)/\(0:Int)=(en gg t)))))))/\((!(yr gg (ak ((PI t (20:Int) (0:Int)).p))))=(!false) ->
 ((true=true ->
 (zP=(aA gg t)/\(5:Int)=(en gg t)))/\(true=false ->
 ((ak ((PI t (20:Int) (0:Int)).p))=(aA gg t)/\(0:Int)=(en gg t))))))))/\(true=(!false) ->
 ((true=false ->
 ((dW (ak ((PI t (20:Int) (0:Int)).p))/\(cw (ak ((PI t (20:Int) (0:Int)).p))).length<=1000000)/\((cw (ak ((PI t (20:Int) (0:Int)).p))).length<=140737488355328 ->
 (((!decide ((cw (ak ((PI t (20:Int) (0:Int)).p)))=t))=true ->
 (zP=(aA gg t)/\(5:Int)=(en gg t)))/\((!decide ((cw (ak ((PI t (20:Int) (0:Int)).p)))=t))=false ->
 ((ak ((PI t (20:Int) (0:Int)).p))=(aA gg t)/\(0:Int)=(en gg t)))))))/\(true=(!false) ->
 ((true=true ->
 (zP=(aA gg t)/\(5:Int)=(en gg t)))/\(true=false ->
 ((ak ((PI t (20:Int) (0:Int)).p))=(aA gg t)/\(0:Int)=(en gg t))))))))))))))))):=by kernel_rfl
theorem Fj(hE:aR [lb,nG,ou])(hO:ja [])(hM:iu [])(hS:gO [jZ]):bu.uy jW:=by
 refine⟨aB vV rfl (by decide),?_⟩
 show ∀ (gg:bb) (t:List UInt8),True->rP prog sb [.val ⟨(.st .sig),gg⟩, .val ⟨.str,t⟩] [⟨(.st .prog),aA gg t⟩,⟨(.int .i64),en gg t⟩]
 intro gg t _
 refine wO (own:=[20]) (wr:=[]) (cl:=[]) (ro:=[2]) hE hO hM hS vV C3 (wH gg t) ?_
 rewrite [FB gg t]
 have r1:aA gg t=bif cf gg&&decide (t.length<=6000) then Fq gg t else zQ:=rfl
 have r2:en gg t=bif cf gg then (bif decide (t.length<=6000) then (bif lM gg t then 0 else 5) else 2) else 1:=rfl
 have r3:lM gg t=((PI t 20 0).ok&&decide ((PI t 20 0).a=(t.length:Int))&&yr gg (PI t 20 0).p&&decide (cw (PI t 20 0).p=t)):=rfl
 have r4:Fq gg t=bif lM gg t then (PI t 20 0).p else zQ:=rfl
 rcases a2q (cf gg) with hg|hg
 .by_cases hl:t.length<=6000
  .have d1:decide ((6000:Int)<((t.length:Int)))=false:=a1P (by omega)
   have b:=OF t 20 0 (by omega) (by omega)
   simp only[r1,r2,hg,d1,a2v hl,a2V,a2R,a1Y,a1V,a1Q,a1O,a1I,a1G,a1J,a1K,a1R,a1W,a1H,a1Z,a1E,ah,aG,bo,ai.eta]
   rcases a2q (PI t 20 0).ok with h1|h1
   .by_cases h2:(PI t 20 0).a=(t.length:Int)
    .have d2:=a2v h2
     rcases a2q (yr gg (PI t 20 0).p) with h3|h3
     .obtain⟨g1,g2,g3⟩:=Ip gg _ hg h3
      have g4:=yX _ _ (a2l _) g1
      by_cases h4:cw (PI t 20 0).p=t
      .have k:lM gg t=true:=by rw[r3,h1,d2,h3,a2v h4];rfl
       have k2:Fq gg t=(PI t 20 0).p:=by rw[r4,k];rfl
       have d4:=a2v h4
       simp only[h1,d2,h3,d4,k,k2,a2R,a1Y,a1V,a1Q,a1O,a1I,a1G,a1J,a1K,a1R,a1W,a1H,a1Z,a1E,ah,aG,bo,ai.eta]
       repeat' (first|intro _|apply And.intro)
       all_goals first|exact True.intro|omega|with_reducible rfl|with_reducible assumption
      .have k:lM gg t=false:=by rw[r3,a1P h4];simp
       have k2:Fq gg t=zQ:=by rw[r4,k];rfl
       have d4:=a1P h4
       simp only[h1,d2,h3,d4,k,k2,a2Y,a1Y,a1V,a1Q,a1O,a1I,a1G,a1J,a1K,a1R,a1W,a1H,a1Z,a1E,ah,aG,bo,ai.eta]
       repeat' (first|intro _|apply And.intro)
       all_goals first|exact True.intro|omega|with_reducible rfl|with_reducible assumption
     .have k:lM gg t=false:=by rw[r3,h3];simp
      have k2:Fq gg t=zQ:=by rw[r4,k];rfl
      simp only[h1,d2,h3,k,k2,a2Y,a1Y,a1V,a1Q,a1O,a1I,a1G,a1J,a1K,a1R,a1W,a1H,a1Z,a1E,ah,aG,bo,ai.eta]
      repeat' (first|intro _|apply And.intro)
      all_goals first|exact True.intro|omega|with_reducible rfl|with_reducible assumption
    .have d2:=a1P h2
     have k:lM gg t=false:=by rw[r3,d2];simp
     have k2:Fq gg t=zQ:=by rw[r4,k];rfl
     simp only[h1,d2,k,k2,a2Y,a1Y,a1V,a1Q,a1O,a1I,a1G,a1J,a1K,a1R,a1W,a1H,a1Z,a1E,ah,aG,bo,ai.eta]
     repeat' (first|intro _|apply And.intro)
     all_goals first|exact True.intro|omega|with_reducible rfl|with_reducible assumption
   .have k:lM gg t=false:=by rw[r3,h1];rfl
    have k2:Fq gg t=zQ:=by rw[r4,k];rfl
    simp only[h1,k,k2,a2Y,a1Y,a1V,a1Q,a1O,a1I,a1G,a1J,a1K,a1R,a1W,a1H,a1Z,a1E,ah,aG,bo,ai.eta]
    repeat' (first|intro _|apply And.intro)
    all_goals first|exact True.intro|omega|with_reducible rfl|with_reducible assumption
  .have d1:decide ((6000:Int)<((t.length:Int)))=true:=a2v (by omega)
   simp only[r1,r2,hg,d1,a1P hl,a2S,a2R,a2Y,a1Y,a1V,a1Q,a1O,a1I,a1G,a1J,a1K,a1R,a1W,a1H,a1Z,a1E,ah,aG,bo,ai.eta]
   repeat' (first|intro _|apply And.intro)
   all_goals first|exact True.intro|omega|with_reducible rfl|with_reducible assumption
 .simp only[r1,r2,hg,a2T,a2Y,a1Y,a1V,a1Q,a1O,a1I,a1G,a1J,a1K,a1R,a1W,a1H,a1Z,a1E,ah,aG,bo,ai.eta]
  repeat' (first|intro _|apply And.intro)
  all_goals first|exact True.intro|omega|with_reducible rfl|with_reducible assumption
theorem Ci:bu.uy jW:=Fj ⟨Di,Gs,Dl,trivial⟩ trivial trivial ⟨yU,trivial⟩
def jX:bu:=⟨sj,[.v (.st .sig), .v .str],λ (gg:bb) (t:List UInt8)=>⟨(none,[⟨(.st .prog),aA gg t⟩,⟨(.int .i64),en gg t⟩])⟩⟩
def wI(gg:bb)(t:List UInt8):Nat->aW:=λ _ => .none
theorem FC(gg:bb)(t:List UInt8):dd (dr [ei,pd] [] [] [20] [] [] [2] [hU]) (aD iU) (wI gg t) 0 (ti (dr [ei,pd] [] [] [20] [] [] [2] [hU]) iU λ r=>bR r [⟨(.st .prog),aA gg t⟩,⟨(.int .i64),en gg t⟩]) (z7 iU [.val ⟨(.st .sig),gg⟩, .val ⟨.str,t⟩]) =
 ((((!(cf gg))=true ->
 (zP=(aA gg t)/\(1:Int)=(en gg t)))/\((!(cf gg))=false ->
 (ah ((t.length:Int)) ->
 (((decide ((6000:Int)<((t.length:Int))))=true ->
 (zP=(aA gg t)/\(2:Int)=(en gg t)))/\((decide ((6000:Int)<((t.length:Int))))=false ->
 ((0<=(0:Int)/\(0:Int)<=(t.length:Int)/\t.length<=10000/\0<=(0:Int)/\(0:Int)<=900)/\((((PR t (0:Int) (0:Int) false).bad)=false ->
 (ah ((PR t (0:Int) (0:Int) false).a) ->
 (ah ((t.length:Int)) ->
 (((!(decide (((PR t (0:Int) (0:Int) false).a)=((t.length:Int)))))=false ->
 (((!(Dz gg (ak ((PR t (0:Int) (0:Int) false).p))))=true ->
 (zP=(aA gg t)/\(5:Int)=(en gg t)))/\((!(Dz gg (ak ((PR t (0:Int) (0:Int) false).p))))=false ->
 ((ak ((PR t (0:Int) (0:Int) false).p))=(aA gg t)/\(0:Int)=(en gg t)))))/\((!(decide (((PR t (0:Int) (0:Int) false).a)=((t.length:Int)))))=(!false) ->
 ((true=true ->
 (zP=(aA gg t)/\(5:Int)=(en gg t)))/\(true=false ->
 ((ak ((PR t (0:Int) (0:Int) false).p))=(aA gg t)/\(0:Int)=(en gg t)))))))))/\(((PR t (0:Int) (0:Int) false).bad)=(!false) ->
 ((true=false ->
 (((!(Dz gg (ak ((PR t (0:Int) (0:Int) false).p))))=true ->
 (zP=(aA gg t)/\(5:Int)=(en gg t)))/\((!(Dz gg (ak ((PR t (0:Int) (0:Int) false).p))))=false ->
 ((ak ((PR t (0:Int) (0:Int) false).p))=(aA gg t)/\(0:Int)=(en gg t)))))/\(true=(!false) ->
 ((true=true ->
 (zP=(aA gg t)/\(5:Int)=(en gg t)))/\(true=false ->
 ((ak ((PR t (0:Int) (0:Int) false).p))=(aA gg t)/\(0:Int)=(en gg t))))))))))))))):=by kernel_rfl
theorem Fk(hE:aR [ei,pd])(hO:ja [])(hM:iu [])(hS:gO [hU]):bu.uy jX:=by
 refine⟨aB wa rfl (by decide),?_⟩
 show ∀ (gg:bb) (t:List UInt8),True->rP prog sj [.val ⟨(.st .sig),gg⟩, .val ⟨.str,t⟩] [⟨(.st .prog),aA gg t⟩,⟨(.int .i64),en gg t⟩]
 intro gg t _
 refine wO (own:=[20]) (wr:=[]) (cl:=[]) (ro:=[2]) hE hO hM hS wa De (wI gg t) ?_
 rewrite [FC gg t]
 have r1:aA gg t=bif cf gg&&decide (t.length<=6000) then Fq gg t else zQ:=rfl
 have r2:en gg t=bif cf gg then (bif decide (t.length<=6000) then (bif lM gg t then 0 else 5) else 2) else 1:=rfl
 have r3:lM gg t=false->Fq gg t=zQ:=λ h=>by unfold Fq;rw[h];rfl
 rcases a2q (cf gg) with hg|hg
 .by_cases hl:t.length<=6000
  .have d1:decide ((6000:Int)<((t.length:Int)))=false:=a1P (by omega)
   obtain⟨s1,s2⟩:=WD gg t hg
   rw[<-WV] at s1 s2
   have b:=(CD t 0 0 false (by omega) (by omega) (by omega)).1.a0
   have s3:Dz gg (PR t 0 0 false).p=yr gg (PR t 0 0 false).p:=by unfold Dz;rw[hg];rfl
   simp only[r1,r2,hg,d1,a2v hl,s3,a2V,a2R,a1Y,a1V,a1Q,a1O,a1I,a1G,a1J,a1K,a1R,a1W,a1H,a1Z,a1E,ah,aG,bo,ai.eta]
   rcases a2q (PR t 0 0 false).bad with h1|h1
   .have k:lM gg t=false:=by rw[<-s1,h1];rfl
    have k2:=r3 k
    simp only[h1,k,k2,a2Y,a1Y,a1V,a1Q,a1O,a1I,a1G,a1J,a1K,a1R,a1W,a1H,a1Z,a1E,ah,aG,bo,ai.eta]
    repeat' (first|intro _|apply And.intro)
    all_goals first|exact True.intro|omega|with_reducible rfl|with_reducible assumption
   .by_cases h2:(PR t 0 0 false).a=(t.length:Int)
    .have d2:=a2v h2
     rcases a2q (yr gg (PR t 0 0 false).p) with h3|h3
     .have k:lM gg t=true:=by rw[<-s1,h1,d2,h3];rfl
      have k2:=s2 k
      simp only[h1,d2,h3,k,a2R,a1Y,a1V,a1Q,a1O,a1I,a1G,a1J,a1K,a1R,a1W,a1H,a1Z,a1E,ah,aG,bo,ai.eta]
      repeat' (first|intro _|apply And.intro)
      all_goals first|exact True.intro|omega|with_reducible rfl|with_reducible assumption
     .have k:lM gg t=false:=by rw[<-s1,h3];simp
      have k2:=r3 k
      simp only[h1,d2,h3,k,k2,a2Y,a1Y,a1V,a1Q,a1O,a1I,a1G,a1J,a1K,a1R,a1W,a1H,a1Z,a1E,ah,aG,bo,ai.eta]
      repeat' (first|intro _|apply And.intro)
      all_goals first|exact True.intro|omega|with_reducible rfl|with_reducible assumption
    .have d2:=a1P h2
     have k:lM gg t=false:=by rw[<-s1,d2];simp
     have k2:=r3 k
     simp only[h1,d2,k,k2,a2Y,a1Y,a1V,a1Q,a1O,a1I,a1G,a1J,a1K,a1R,a1W,a1H,a1Z,a1E,ah,aG,bo,ai.eta]
     repeat' (first|intro _|apply And.intro)
     all_goals first|exact True.intro|omega|with_reducible rfl|with_reducible assumption
  .have d1:decide ((6000:Int)<((t.length:Int)))=true:=a2v (by omega)
   simp only[r1,r2,hg,d1,a1P hl,a2S,a2R,a2Y,a1Y,a1V,a1Q,a1O,a1I,a1G,a1J,a1K,a1R,a1W,a1H,a1Z,a1E,ah,aG,bo,ai.eta]
   repeat' (first|intro _|apply And.intro)
   all_goals first|exact True.intro|omega|with_reducible rfl|with_reducible assumption
 .simp only[r1,r2,hg,a2T,a2Y,a1Y,a1V,a1Q,a1O,a1I,a1G,a1J,a1K,a1R,a1W,a1H,a1Z,a1E,ah,aG,bo,ai.eta]
  repeat' (first|intro _|apply And.intro)
  all_goals first|exact True.intro|omega|with_reducible rfl|with_reducible assumption
theorem Cj:bu.uy jX:=Fk ⟨qS,Ig,trivial⟩ trivial trivial ⟨vt,trivial⟩
end
end Go.Proofs.YtaaamahdcpcofaaDoor

set_option maxRecDepth 4000
set_option maxHeartbeats 4000000
namespace Go.Proofs.YtaaamahdcpcofaaDoor
noncomputable section
mutual
theorem TH:∀ x:M,aK x=2+2 * jk x
 | ⟨k,n,ks⟩=>by
  have:=EE ks
  simp only[aK,jk,this,z8]
theorem EE:∀ xs:List M,w7 xs=2 * (xs.length+aw jk xs)
 | []=>by simp[w7,aw]
 | x::xs=>by
  have h1:=TH x
  have h2:=EE xs
  simp only[w7,aw,a1M,h1,h2];omega
end
theorem Qk(x:M):aw aK x.J=2 * jk x:=by
 have:=EE x.J
 rw[yd] at this
 rw[this,Ro]
mutual
theorem Vj:∀ x:ai,aj x<=4+4 * ke x
 | ⟨k,n,c,ks⟩=>by
  have h1:=HY ks
  have h2:=Qk c
  simp only[aj,ke,mF,Aa,h2] at h1 ⊢
  omega
theorem HY:∀ xs:List ai,kj xs<=4 * (xs.length+aw ke xs)
 | []=>by simp[kj,aw]
 | x::xs=>by
  have h1:=Vj x
  have h2:=HY xs
  simp only[kj,aw,a1M];omega
end
theorem Vk(x:ai):aw aK x.cond.J+aw aj x.J<=4 * ke x:=by
 have h1:=HY x.J
 rw[mF] at h1
 rw[Qk,Rp]
 omega
mutual
theorem Oz:∀ x:M,jk x+1=bd x
 | ⟨_,_,ks⟩=>by
  have:=MR ks
  simp only[jk,bd];omega
theorem MR:∀ xs:List M,xs.length+sA xs=tg xs
 | []=>rfl
 | x::xs=>by
  have h1:=Oz x
  have h2:=MR xs
  simp only[sA,tg,a1M];omega
end
mutual
theorem Rq(gg:bb):∀ p:ai,cR gg p=true->ke p+1<=202 * bq p
 | ⟨k,n,c,ks⟩,h=>by
  have h0:=h
  rw[oF,qe] at h0
  simp only[a1z,a1F] at h0
  obtain⟨⟨⟨h1,_⟩,h3⟩,h4⟩:=h0
  have ih:=OA gg ks h4
  have hc:jk c<=199:=by
   rw[Bv] at h3
   split at h3
   .simp only[E5,a1z,L4] at h3
    have:=Oz c
    omega
   .rw[Oe c h3];simp[jk,sA]
  have hk:ks.length<=2:=by
   simp only[bT] at h1
   split at h1
   .omega
   .split at h1
    .omega
    .split at h1<;>omega
  simp only[ke,bq]
  omega
theorem OA(gg:bb):∀ ps:List ai,cG (cR gg) ps=true->sB ps<=202 * th ps
 | [],_=>by simp[sB]
 | p::ps,h=>by
  simp only[cG,a1z] at h
  have h1:=Rq gg p h.1
  have h2:=OA gg ps h.2
  simp only[sB,th]
  omega
end
theorem WE(gg:bb)(t:List UInt8):ke (aA gg t)<=1048576:=by
 unfold aA
 cases cf gg&&decide (t.length<=6000)
 .exact a2n rfl
 .show ke (Fq gg t)<=_
  unfold Fq
  cases h:lM gg t
  .exact a2n rfl
  .simp only[lM,a1z] at h
   have h1:=h.1.2
   simp only[yr,nh,a1z,a1F] at h1
   have:=Rq gg _ h1.1.1
   show ke (No t).p<=_
   omega
theorem Vl(k:Int)(x:ai):aw aK (aY k x.cond.J)=aw aK x.cond.J/\aw aj (gM aj bA (k+(aw aK x.cond.J:Int)) x.J)=aw aj x.J:=by
 have:=(G5 (k+(aw aK x.cond.J:Int)) x.J).2
 simp only[rn,mF] at this
 exact⟨H0 _ _,this⟩
def qm:bu:=⟨hY,[.v (.st .sig), .v .str],λ (gg:bb) (t:List UInt8)=>⟨(none,[⟨.bool,true⟩])⟩⟩
def qn(gg:bb)(t:List UInt8):Nat->aW:=λ _ => .none
abbrev oI(gg:bb)(t:List UInt8):Prop:=((decide ((ny (1:Int) (ai.mk (aA gg t).af (aA gg t).al (M.mk (aA gg t).cond.af (aA gg t).cond.al ((ai.mk (ak (aA gg t)).af (ak (aA gg t)).al (M.mk (ak (aA gg t)).cond.af (ak (aA gg t)).cond.al (aY (1:Int) (ak (aA gg t)).cond.J)) (gM aj bA ((1:Int)+(aw aK (ak (aA gg t)).cond.J:Int)) (ak (aA gg t)).J))).cond.J) ((ai.mk (ak (aA gg t)).af (ak (aA gg t)).al (M.mk (ak (aA gg t)).cond.af (ak (aA gg t)).cond.al (aY (1:Int) (ak (aA gg t)).cond.J)) (gM aj bA ((1:Int)+(aw aK (ak (aA gg t)).cond.J:Int)) (ak (aA gg t)).J))).J))<(0:Int)))=true ->
 false=true)
abbrev oJ(gg:bb)(t:List UInt8):Prop:=((!(decide ((ny (1:Int) (ai.mk (aA gg t).af (aA gg t).al (M.mk (aA gg t).cond.af (aA gg t).cond.al ((ai.mk (ak (aA gg t)).af (ak (aA gg t)).al (M.mk (ak (aA gg t)).cond.af (ak (aA gg t)).cond.al (aY (1:Int) (ak (aA gg t)).cond.J)) (gM aj bA ((1:Int)+(aw aK (ak (aA gg t)).cond.J:Int)) (ak (aA gg t)).J))).cond.J) ((ai.mk (ak (aA gg t)).af (ak (aA gg t)).al (M.mk (ak (aA gg t)).cond.af (ak (aA gg t)).cond.al (aY (1:Int) (ak (aA gg t)).cond.J)) (gM aj bA ((1:Int)+(aw aK (ak (aA gg t)).cond.J:Int)) (ak (aA gg t)).J))).J))=((1:Int)+(aw aK (ak (aA gg t)).cond.J:Int)+(aw aj (ak (aA gg t)).J:Int)))))=true ->
 false=true)
abbrev oK(gg:bb)(t:List UInt8):Prop:=((0<=(1:Int)/\(1:Int)+(aw aK (ai.mk (aA gg t).af (aA gg t).al (M.mk (aA gg t).cond.af (aA gg t).cond.al ((ai.mk (ak (aA gg t)).af (ak (aA gg t)).al (M.mk (ak (aA gg t)).cond.af (ak (aA gg t)).cond.al (aY (1:Int) (ak (aA gg t)).cond.J)) (gM aj bA ((1:Int)+(aw aK (ak (aA gg t)).cond.J:Int)) (ak (aA gg t)).J))).cond.J) ((ai.mk (ak (aA gg t)).af (ak (aA gg t)).al (M.mk (ak (aA gg t)).cond.af (ak (aA gg t)).cond.al (aY (1:Int) (ak (aA gg t)).cond.J)) (gM aj bA ((1:Int)+(aw aK (ak (aA gg t)).cond.J:Int)) (ak (aA gg t)).J))).J).cond.J:Int)+(aw aj (ai.mk (aA gg t).af (aA gg t).al (M.mk (aA gg t).cond.af (aA gg t).cond.al ((ai.mk (ak (aA gg t)).af (ak (aA gg t)).al (M.mk (ak (aA gg t)).cond.af (ak (aA gg t)).cond.al (aY (1:Int) (ak (aA gg t)).cond.J)) (gM aj bA ((1:Int)+(aw aK (ak (aA gg t)).cond.J:Int)) (ak (aA gg t)).J))).cond.J) ((ai.mk (ak (aA gg t)).af (ak (aA gg t)).al (M.mk (ak (aA gg t)).cond.af (ak (aA gg t)).cond.al (aY (1:Int) (ak (aA gg t)).cond.J)) (gM aj bA ((1:Int)+(aw aK (ak (aA gg t)).cond.J:Int)) (ak (aA gg t)).J))).J).J:Int)<=4611686018427387904)/\(ah (ny (1:Int) (ai.mk (aA gg t).af (aA gg t).al (M.mk (aA gg t).cond.af (aA gg t).cond.al ((ai.mk (ak (aA gg t)).af (ak (aA gg t)).al (M.mk (ak (aA gg t)).cond.af (ak (aA gg t)).cond.al (aY (1:Int) (ak (aA gg t)).cond.J)) (gM aj bA ((1:Int)+(aw aK (ak (aA gg t)).cond.J:Int)) (ak (aA gg t)).J))).cond.J) ((ai.mk (ak (aA gg t)).af (ak (aA gg t)).al (M.mk (ak (aA gg t)).cond.af (ak (aA gg t)).cond.al (aY (1:Int) (ak (aA gg t)).cond.J)) (gM aj bA ((1:Int)+(aw aK (ak (aA gg t)).cond.J:Int)) (ak (aA gg t)).J))).J)) ->
 ((oI gg t)/\((decide ((ny (1:Int) (ai.mk (aA gg t).af (aA gg t).al (M.mk (aA gg t).cond.af (aA gg t).cond.al ((ai.mk (ak (aA gg t)).af (ak (aA gg t)).al (M.mk (ak (aA gg t)).cond.af (ak (aA gg t)).cond.al (aY (1:Int) (ak (aA gg t)).cond.J)) (gM aj bA ((1:Int)+(aw aK (ak (aA gg t)).cond.J:Int)) (ak (aA gg t)).J))).cond.J) ((ai.mk (ak (aA gg t)).af (ak (aA gg t)).al (M.mk (ak (aA gg t)).cond.af (ak (aA gg t)).cond.al (aY (1:Int) (ak (aA gg t)).cond.J)) (gM aj bA ((1:Int)+(aw aK (ak (aA gg t)).cond.J:Int)) (ak (aA gg t)).J))).J))<(0:Int)))=false ->
 ((oJ gg t)/\((!(decide ((ny (1:Int) (ai.mk (aA gg t).af (aA gg t).al (M.mk (aA gg t).cond.af (aA gg t).cond.al ((ai.mk (ak (aA gg t)).af (ak (aA gg t)).al (M.mk (ak (aA gg t)).cond.af (ak (aA gg t)).cond.al (aY (1:Int) (ak (aA gg t)).cond.J)) (gM aj bA ((1:Int)+(aw aK (ak (aA gg t)).cond.J:Int)) (ak (aA gg t)).J))).cond.J) ((ai.mk (ak (aA gg t)).af (ak (aA gg t)).al (M.mk (ak (aA gg t)).cond.af (ak (aA gg t)).cond.al (aY (1:Int) (ak (aA gg t)).cond.J)) (gM aj bA ((1:Int)+(aw aK (ak (aA gg t)).cond.J:Int)) (ak (aA gg t)).J))).J))=((1:Int)+(aw aK (ak (aA gg t)).cond.J:Int)+(aw aj (ak (aA gg t)).J:Int)))))=false ->
 true=true))))))
abbrev oL(gg:bb)(t:List UInt8):Prop:=((0<=(1:Int)/\(1:Int)+(aw aK (ak (aA gg t)).cond.J:Int)+(aw aj (ak (aA gg t)).J:Int)<=4611686018427387904)/\((0<=(1:Int)/\(1:Int)+(aw aK (ai.mk (aA gg t).af (aA gg t).al (M.mk (aA gg t).cond.af (aA gg t).cond.al ((ai.mk (ak (aA gg t)).af (ak (aA gg t)).al (M.mk (ak (aA gg t)).cond.af (ak (aA gg t)).cond.al (aY (1:Int) (ak (aA gg t)).cond.J)) (gM aj bA ((1:Int)+(aw aK (ak (aA gg t)).cond.J:Int)) (ak (aA gg t)).J))).cond.J) ((ai.mk (ak (aA gg t)).af (ak (aA gg t)).al (M.mk (ak (aA gg t)).cond.af (ak (aA gg t)).cond.al (aY (1:Int) (ak (aA gg t)).cond.J)) (gM aj bA ((1:Int)+(aw aK (ak (aA gg t)).cond.J:Int)) (ak (aA gg t)).J))).J).cond.J:Int)+(aw aj (ai.mk (aA gg t).af (aA gg t).al (M.mk (aA gg t).cond.af (aA gg t).cond.al ((ai.mk (ak (aA gg t)).af (ak (aA gg t)).al (M.mk (ak (aA gg t)).cond.af (ak (aA gg t)).cond.al (aY (1:Int) (ak (aA gg t)).cond.J)) (gM aj bA ((1:Int)+(aw aK (ak (aA gg t)).cond.J:Int)) (ak (aA gg t)).J))).cond.J) ((ai.mk (ak (aA gg t)).af (ak (aA gg t)).al (M.mk (ak (aA gg t)).cond.af (ak (aA gg t)).cond.al (aY (1:Int) (ak (aA gg t)).cond.J)) (gM aj bA ((1:Int)+(aw aK (ak (aA gg t)).cond.J:Int)) (ak (aA gg t)).J))).J).J:Int)<=4611686018427387904)/\(ah (ny (1:Int) (ai.mk (aA gg t).af (aA gg t).al (M.mk (aA gg t).cond.af (aA gg t).cond.al ((ai.mk (ak (aA gg t)).af (ak (aA gg t)).al (M.mk (ak (aA gg t)).cond.af (ak (aA gg t)).cond.al (aY (1:Int) (ak (aA gg t)).cond.J)) (gM aj bA ((1:Int)+(aw aK (ak (aA gg t)).cond.J:Int)) (ak (aA gg t)).J))).cond.J) ((ai.mk (ak (aA gg t)).af (ak (aA gg t)).al (M.mk (ak (aA gg t)).cond.af (ak (aA gg t)).cond.al (aY (1:Int) (ak (aA gg t)).cond.J)) (gM aj bA ((1:Int)+(aw aK (ak (aA gg t)).cond.J:Int)) (ak (aA gg t)).J))).J)) ->
 ((oI gg t)/\((decide ((ny (1:Int) (ai.mk (aA gg t).af (aA gg t).al (M.mk (aA gg t).cond.af (aA gg t).cond.al ((ai.mk (ak (aA gg t)).af (ak (aA gg t)).al (M.mk (ak (aA gg t)).cond.af (ak (aA gg t)).cond.al (aY (1:Int) (ak (aA gg t)).cond.J)) (gM aj bA ((1:Int)+(aw aK (ak (aA gg t)).cond.J:Int)) (ak (aA gg t)).J))).cond.J) ((ai.mk (ak (aA gg t)).af (ak (aA gg t)).al (M.mk (ak (aA gg t)).cond.af (ak (aA gg t)).cond.al (aY (1:Int) (ak (aA gg t)).cond.J)) (gM aj bA ((1:Int)+(aw aK (ak (aA gg t)).cond.J:Int)) (ak (aA gg t)).J))).J))<(0:Int)))=false ->
 ((oJ gg t)/\((!(decide ((ny (1:Int) (ai.mk (aA gg t).af (aA gg t).al (M.mk (aA gg t).cond.af (aA gg t).cond.al ((ai.mk (ak (aA gg t)).af (ak (aA gg t)).al (M.mk (ak (aA gg t)).cond.af (ak (aA gg t)).cond.al (aY (1:Int) (ak (aA gg t)).cond.J)) (gM aj bA ((1:Int)+(aw aK (ak (aA gg t)).cond.J:Int)) (ak (aA gg t)).J))).cond.J) ((ai.mk (ak (aA gg t)).af (ak (aA gg t)).al (M.mk (ak (aA gg t)).cond.af (ak (aA gg t)).cond.al (aY (1:Int) (ak (aA gg t)).cond.J)) (gM aj bA ((1:Int)+(aw aK (ak (aA gg t)).cond.J:Int)) (ak (aA gg t)).J))).J))=((1:Int)+(aw aK (ak (aA gg t)).cond.J:Int)+(aw aj (ak (aA gg t)).J:Int)))))=false ->
 (ah (en gg t) ->
 (((!(gA (ak (aA gg t)) (ak (aA gg t))))=false ->
 (((!(decide ((en gg t)=(en gg t))))=true ->
 false=true)/\((!(decide ((en gg t)=(en gg t))))=false ->
 (oK gg t))))/\((!(gA (ak (aA gg t)) (ak (aA gg t))))=(!false) ->
 ((true=true ->
 false=true)/\(true=false ->
 (oK gg t)))))))))))))
theorem xG(gg:bb)(t:List UInt8):dd (dr [pb,rj,lg] [jW,jX] [fU] [20,27,41,54] [] [] [2]) (aD dX) (qn gg t) 0 (bO (dr [pb,rj,lg] [jW,jX] [fU] [20,27,41,54] [] [] [2]) dX λ r=>bR r [⟨.bool,true⟩]) (aU dX [.val ⟨(.st .sig),gg⟩, .val ⟨.str,t⟩]) =
 ((ah ((t.length:Int)) ->
 (((decide ((1048576:Int)<((t.length:Int))))=true ->
 true=true)/\((decide ((1048576:Int)<((t.length:Int))))=false ->
 (ah (en gg t) ->
 (ah (en gg t) ->
 (((!(gA (ak (aA gg t)) (ak (aA gg t))))=false ->
 (((!(decide ((en gg t)=(en gg t))))=true ->
 false=true)/\((!(decide ((en gg t)=(en gg t))))=false ->
 (oL gg t))))/\((!(gA (ak (aA gg t)) (ak (aA gg t))))=(!false) ->
 ((true=true ->
 false=true)/\(true=false ->
 (oL gg t))))))))))):=by kernel_rfl
theorem xl(hE:aR [pb,rj,lg])(hO:ja [jW,jX])(hM:iu [fU])(hS:gO []):bu.Good qm:=by
 refine⟨aB o6 rfl (by decide),?_⟩
 show ∀ (gg:bb) (t:List UInt8),True->bL prog hY [.val ⟨(.st .sig),gg⟩, .val ⟨.str,t⟩] (·=[⟨.bool,true⟩])
 intro gg t _
 refine Q9 (own:=[20,27,41,54]) (wr:=[]) (cl:=[]) (ro:=[2]) hE hO hM hS o6 uB (qn gg t) ?_
 rewrite [xG gg t]
 have f2:=Vk (aA gg t)
 have f3:=WE gg t
 have f4:=TY 1 (aA gg t)
 have f5:=Vl 1 (aA gg t)
 refine λ a0=>⟨λ a1=>rfl,λ a1=>λ a2=>λ a3=>⟨λ a4=>⟨λ a5=>?_,λ a5=>⟨?_,⟨?_,λ a6=>⟨λ a7=>?_,λ a7=>⟨λ a8=>?_,λ a8=>λ a9=>⟨λ gl=>⟨λ jn=>?_,λ jn=>⟨?_,λ a12=>⟨λ vB=>?_,λ vB=>⟨λ sN=>?_,λ sN=>rfl⟩⟩⟩⟩,λ gl=>⟨λ jn=>?_,λ jn=>⟨?_,λ a12=>⟨λ vB=>?_,λ vB=>⟨λ sN=>?_,λ sN=>rfl⟩⟩⟩⟩⟩⟩⟩⟩⟩⟩,λ a4=>⟨λ a5=>?_,λ a5=>⟨?_,⟨?_,λ a6=>⟨λ a7=>?_,λ a7=>⟨λ a8=>?_,λ a8=>λ a9=>⟨λ gl=>⟨λ jn=>?_,λ jn=>⟨?_,λ a12=>⟨λ vB=>?_,λ vB=>⟨λ sN=>?_,λ sN=>rfl⟩⟩⟩⟩,λ gl=>⟨λ jn=>?_,λ jn=>⟨?_,λ a12=>⟨λ vB=>?_,λ vB=>⟨λ sN=>?_,λ sN=>rfl⟩⟩⟩⟩⟩⟩⟩⟩⟩⟩⟩⟩
 all_goals try and_intros
 all_goals try (first|with_reducible rfl|with_reducible assumption)
 all_goals try simp only[M.eta,ai.eta,aG,bo] at *
 all_goals first|rfl|trivial|omega|(simp only[a1F,a1L,aZ,ah,dD,eM,j0,fI] at *;omega)|(simp[aZ,ah] at *;omega)|grind|(simp_all;done)|(simp_all;omega)
theorem uN:bu.Good qm:=xl ⟨Ic,Gx,Dn,trivial⟩ ⟨Ci,Cj,trivial⟩ ⟨Cc,trivial⟩ trivial
theorem B5:∀ HB:List TV,HB.map TV.τ=[(.st .sig), .str]->bL prog hY (HB.map .val) (·=[⟨.bool,true⟩]):=by
 intro HB h
 match HB,h with
 | [⟨t0,a0⟩,⟨t1,a1⟩],h =>
  simp only[a2p,a3K,a1C,a1H] at h
  obtain⟨rfl,rfl⟩:=h
  exact uN.2 a0 a1 trivial
end
end Go.Proofs.YtaaamahdcpcofaaDoor

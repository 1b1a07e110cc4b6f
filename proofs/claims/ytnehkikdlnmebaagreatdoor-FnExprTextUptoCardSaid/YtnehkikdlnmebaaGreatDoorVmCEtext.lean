/- VmRdm, VmRdi, VmWTxt, VmCEtext. -/
import Derived.Test.YtnehkikdlnmebaaGreatDoorVmRExpr
set_option linter.all false
set_option maxRecDepth 4000
set_option maxHeartbeats 4000000
namespace Go.Proofs.YtnehkikdlnmebaaGreatDoor
def a8U:=@List.drop_succ_cons
def a6E:=@decide_true
def a6z:=@decide_false
def a6l:=@Bool.true_eq_false
def a6p:=@not_true_eq_false
def a6q:=@not_false_eq_true
def a6v:=@false_implies
def a6A:=@true_implies
noncomputable section
theorem a2L(t:List UInt8)(a:Nat)(s:List UInt8):(decide (s.length<=(t.drop a).length)&&decide ((t.drop a).take s.length=s))=cC t a s:=rfl
theorem N6(t:List UInt8)(a:Nat)(s:List UInt8)(h:cC t a s=true):s.length+a<=t.length\/s=[]:=by
 obtain⟨r,hr⟩:=(Ij t a s).1 h
 have:=congrArg List.length hr
 simp only[a6S,a5U] at this
 cases s with
 | nil=>exact .inr rfl
 | cons b l=>left;simp only[a5O] at this ⊢;omega
def au(t:List UInt8)(a:Int)(p:List UInt8):Int:=bif cC t a.toNat p then a+(p.length:Int) else a
def zu(t:List UInt8)(a:Int):Int:=bif iT t a.toNat then a+1 else a
def DC(t:List UInt8)(a:Int):Int:=bif iT t a.toNat then ((t.getD a.toNat 0).toNat:Int) - 48 else 0
theorem a1p:IntKind.u8.min=0:=rfl
theorem a1o:IntKind.u8.max=255:=rfl
theorem a1J(b:UInt8):0<=(b.toNat:Int)/\(b.toNat:Int)<=255:=by have:=b.toNat_lt;omega
def dx:fY:=⟨oN,[[.d .str, .d (.int .i64)]],[.b 0, .v .str],[[.str,(.int .i64)]],λ (p:List UInt8) (t:List UInt8) (a:Int)=>⟨(some (0<=a/\a<=(t.length:Int)/\t.length<=10000/\p.length<=10/\1<=p.length),[⟨.bool,cC t a.toNat p⟩],[[⟨.str,t⟩,⟨(.int .i64),au t a p⟩]])⟩⟩
def ti(p:List UInt8)(t:List UInt8)(a:Int):Nat->aX:=λ _ => .none
theorem Bp(p:List UInt8)(t:List UInt8)(a:Int):cU (dj [dw] [] [] [] []) (aF eU) (ti p t a) 0 (gS (dj [dw] [] [] [] []) eU [[.d .str, .d (.int .i64)]] λ r ds=>bH r [⟨.bool,cC t a.toNat p⟩]/\jv ds [[⟨.str,t⟩,⟨(.int .i64),au t a p⟩]]) (cB eU [.box 0, .val ⟨.str,p⟩] [[.d .str, .d (.int .i64)]] [[⟨.str,t⟩,⟨(.int .i64),a⟩]]) =
 ((iW a ((t.length:Int)) t.length/\(t.length<=140737488355328 ->
 (ag a ->
 (((!(decide (p.length<=((t.take (Int.toNat ((t.length:Int)))).drop (Int.toNat a)).length)&&decide (((t.take (Int.toNat ((t.length:Int)))).drop (Int.toNat a)).take p.length=p)))=true ->
 (false=(cC t a.toNat p)/\((t=t/\a=(au t a p))/\True)))/\((!(decide (p.length<=((t.take (Int.toNat ((t.length:Int)))).drop (Int.toNat a)).length)&&decide (((t.take (Int.toNat ((t.length:Int)))).drop (Int.toNat a)).take p.length=p)))=false ->
 (ag a ->
 (ag ((p.length:Int)) ->
 (ag (a+((p.length:Int)))/\(true=(cC t a.toNat p)/\((t=t/\(a+((p.length:Int)))=(au t a p))/\True))))))))))):=by kernel_rfl
theorem Be(hE:aQ [dw])(hO:iE [])(hM:iS [])(hS:gU []):fY.Good dx:=by
 refine⟨aG sM rfl (by decide),?_⟩
 show ∀ (p:List UInt8) (t:List UInt8) (a:Int),(0<=a/\a<=(t.length:Int)/\t.length<=10000/\p.length<=10/\1<=p.length)->p7 prog oN [[.d .str, .d (.int .i64)]] [.box 0, .val ⟨.str,p⟩] [[⟨.str,t⟩,⟨(.int .i64),a⟩]] [⟨.bool,cC t a.toNat p⟩] [[⟨.str,t⟩,⟨(.int .i64),au t a p⟩]]
 intro p t a hp
 refine eN (own:=[]) (wr:=[]) (cl:=[]) (ro:=[]) hE hO hM hS sM zd (ti p t a) rfl rfl ?_
 rewrite [Bp p t a]
 obtain⟨h1,h2,h3,h4,h5⟩:=hp
 have f0:au t a p=bif cC t a.toNat p then a+(p.length:Int) else a:=rfl
 refine⟨?_,λ a0=>λ a1=>⟨λ a2=>⟨?_,⟨⟨rfl,?_⟩,trivial⟩⟩,λ a2=>λ a3=>λ a4=>⟨?_,⟨?_,⟨⟨rfl,?_⟩,trivial⟩⟩⟩⟩⟩
 all_goals try and_intros
 all_goals first|rfl|trivial|omega|((try simp only[a6g,a5Z,a6k,a7m,a5M,a5N] at *)<;>(try simp only[a5X,a8g,a2L,aV,iW,ag] at *)<;>first|with_reducible rfl|omega|(have h1:=N6 _ _ _ (by with_reducible assumption);have h2:p.length<=10:=by omega;omega)|(rw[by with_reducible assumption];done)|(rw[show cC t a.toNat p=_ from by with_reducible assumption];rfl)|simp_all)
theorem qs:fY.Good dx:=Be ⟨qf,trivial⟩ trivial trivial trivial
def fC:fY:=⟨nC,[[.d .str, .d (.int .i64)]],[.b 0],[[.str,(.int .i64)]],λ (t:List UInt8) (a:Int)=>⟨(some (0<=a/\a<=(t.length:Int)/\t.length<=10000),[⟨(.int .i64),DC t a⟩,⟨.bool,iT t a.toNat⟩],[[⟨.str,t⟩,⟨(.int .i64),zu t a⟩]])⟩⟩
def rN(t:List UInt8)(a:Int):Nat->aX:=λ _ => .none
abbrev qh(t:List UInt8)(a:Int):Prop:=(ag a ->
 (ag (a+(1:Int))/\(ag ((a+(1:Int)) - (1:Int))/\(t.length<=140737488355328 ->
 (ag (a+(1:Int)) ->
 (aV ((a+(1:Int)) - (1:Int)) t.length/\(cq .u8 ((((t.getD (Int.toNat ((a+(1:Int)) - (1:Int))) 0).toNat:Int)) - (48:Int))/\(ag ((((t.getD (Int.toNat ((a+(1:Int)) - (1:Int))) 0).toNat:Int)) - (48:Int))/\((((((t.getD (Int.toNat ((a+(1:Int)) - (1:Int))) 0).toNat:Int)) - (48:Int))=(DC t a)/\true=(iT t a.toNat))/\((t=t/\(a+(1:Int))=(zu t a))/\True))))))))))
abbrev qi(t:List UInt8)(a:Int):Prop:=(t.length<=140737488355328 ->
 (ag a ->
 (aV a t.length/\(((decide ((((t.getD (Int.toNat a) 0).toNat:Int))<=(57:Int)))=true ->
 (qh t a))/\((decide ((((t.getD (Int.toNat a) 0).toNat:Int))<=(57:Int)))=false ->
 (((0:Int)=(DC t a)/\false=(iT t a.toNat))/\((t=t/\a=(zu t a))/\True)))))))
abbrev qj(t:List UInt8)(a:Int):Prop:=((false=true ->
 (qh t a))/\(false=false ->
 (((0:Int)=(DC t a)/\false=(iT t a.toNat))/\((t=t/\a=(zu t a))/\True))))
theorem z8(t:List UInt8)(a:Int):cU (dj [] [] [] [] []) (aF eu) (rN t a) 0 (gS (dj [] [] [] [] []) eu [[.d .str, .d (.int .i64)]] λ r ds=>bH r [⟨(.int .i64),DC t a⟩,⟨.bool,iT t a.toNat⟩]/\jv ds [[⟨.str,t⟩,⟨(.int .i64),zu t a⟩]]) (cB eu [.box 0] [[.d .str, .d (.int .i64)]] [[⟨.str,t⟩,⟨(.int .i64),a⟩]]) =
 ((((decide (a<((t.length:Int))))=true ->
 (aV a t.length/\(((decide ((48:Int)<=(((t.getD (Int.toNat a) 0).toNat:Int))))=true ->
 (ag a ->
 (t.length<=140737488355328 ->
 (ag ((t.length:Int)) ->
 (t.length<=140737488355328 ->
 (ag a ->
 (qi t a)))))))/\((decide ((48:Int)<=(((t.getD (Int.toNat a) 0).toNat:Int))))=(!true) ->
 (ag a ->
 (t.length<=140737488355328 ->
 (ag ((t.length:Int)) ->
 (t.length<=140737488355328 ->
 (ag a ->
 (qj t a))))))))))/\((decide (a<((t.length:Int))))=(!true) ->
 ((false=true ->
 (ag a ->
 (t.length<=140737488355328 ->
 (ag ((t.length:Int)) ->
 (qi t a)))))/\(false=(!true) ->
 (ag a ->
 (t.length<=140737488355328 ->
 (ag ((t.length:Int)) ->
 (qj t a))))))))):=by kernel_rfl
theorem zQ(hE:aQ [])(hO:iE [])(hM:iS [])(hS:gU []):fY.Good fC:=by
 refine⟨aG rC rfl (by decide),?_⟩
 show ∀ (t:List UInt8) (a:Int),(0<=a/\a<=(t.length:Int)/\t.length<=10000)->p7 prog nC [[.d .str, .d (.int .i64)]] [.box 0] [[⟨.str,t⟩,⟨(.int .i64),a⟩]] [⟨(.int .i64),DC t a⟩,⟨.bool,iT t a.toNat⟩] [[⟨.str,t⟩,⟨(.int .i64),zu t a⟩]]
 intro t a hp
 refine eN (own:=[]) (wr:=[]) (cl:=[]) (ro:=[]) hE hO hM hS rC xR (rN t a) rfl rfl ?_
 rewrite [z8 t a]
 obtain⟨h1,h2,h3⟩:=hp
 have f1:=a1J (t.getD a.toNat 0)
 have f3:zu t a=bif iT t a.toNat then a+1 else a:=rfl
 have f4:DC t a=bif iT t a.toNat then ((t.getD a.toNat 0).toNat:Int) - 48 else 0:=rfl
 have f2:iT t a.toNat=(decide (a.toNat<t.length)&&decide (48<=(t.getD a.toNat 0).toNat)&&decide ((t.getD a.toNat 0).toNat<=57)):=rfl
 refine⟨λ a0=>⟨?_,⟨λ a1=>λ a2=>λ a3=>λ a4=>λ a5=>λ a6=>λ a7=>λ a8=>⟨?_,⟨λ a9=>λ dt=>⟨?_,⟨?_,λ dP=>λ a12=>⟨?_,⟨?_,⟨?_,⟨⟨?_,?_⟩,⟨⟨rfl,?_⟩,trivial⟩⟩⟩⟩⟩⟩⟩,λ a9=>⟨⟨?_,?_⟩,⟨⟨rfl,?_⟩,trivial⟩⟩⟩⟩,λ a1=>λ a2=>λ a3=>λ a4=>λ a5=>λ a6=>⟨λ a7=>λ a8=>⟨?_,⟨?_,λ a9=>λ dt=>⟨?_,⟨?_,⟨?_,⟨⟨?_,?_⟩,⟨⟨rfl,?_⟩,trivial⟩⟩⟩⟩⟩⟩⟩,λ a7=>⟨⟨?_,?_⟩,⟨⟨rfl,?_⟩,trivial⟩⟩⟩⟩⟩,λ a0=>⟨λ a1=>λ a2=>λ a3=>λ a4=>λ a5=>λ a6=>⟨?_,⟨λ a7=>λ a8=>⟨?_,⟨?_,λ a9=>λ dt=>⟨?_,⟨?_,⟨?_,⟨⟨?_,?_⟩,⟨⟨rfl,?_⟩,trivial⟩⟩⟩⟩⟩⟩⟩,λ a7=>⟨⟨?_,?_⟩,⟨⟨rfl,?_⟩,trivial⟩⟩⟩⟩,λ a1=>λ a2=>λ a3=>λ a4=>⟨λ a5=>λ a6=>⟨?_,⟨?_,λ a7=>λ a8=>⟨?_,⟨?_,⟨?_,⟨⟨?_,?_⟩,⟨⟨rfl,?_⟩,trivial⟩⟩⟩⟩⟩⟩⟩,λ a5=>⟨⟨?_,?_⟩,⟨⟨rfl,?_⟩,trivial⟩⟩⟩⟩⟩
 all_goals try and_intros
 all_goals first|rfl|trivial|omega|(simp only[decide_eq_true_eq,decide_eq_false_iff_not,aV,ag,a1p,a1o] at *;first|omega|grind [iT])|grind [iT,a1p,a1o]
theorem xy:fY.Good fC:=zQ trivial trivial trivial trivial
def nE(t:List UInt8)(a:Int):Nat:=pI 126 (t.drop a.toNat)
def rE(t:List UInt8)(d a:Int):RI:=dB t (d+1).toNat (a.toNat+nE t a)
def mE(t:List UInt8)(d a:Int):Nat:=pI 42 (t.drop (rE t d a).a)
def xE(t:List UInt8)(d a:Int):RI:=kr (dB t (d+1).toNat) t a.toNat
theorem UP(c:UInt8):∀ l:List UInt8,pI c l<=l.length
 | []=>a6b _
 | b::l=>by
  have:=UP c l
  unfold pI
  split<;>simp<;>omega
theorem C0(c:UInt8)(t:List UInt8)(a:Nat)(h:a<=t.length):a+pI c (t.drop a)<=t.length:=by
 have:=UP c (t.drop a)
 simp only[a6S] at this;omega
theorem lZ(t:List UInt8)(a:Nat)(c:UInt8)(s:List UInt8)(h:cC t a (c::s)=true):a+(c::s).length<=t.length:=by
 rcases N6 t a _ h with g|g
 .omega
 .cases g
theorem O1(core:Nat->RI)(t:List UInt8)(hc:∀ a,a<=t.length->(core a).a<=t.length)(a:Nat)(h:a<=t.length):(kr core t a).a<=t.length:=by
 have h1:=C0 126 t a h
 have h2:=hc _ h1
 have h3:=C0 42 t _ h2
 unfold kr
 split
 .exact h1
 .split
  .show (core (a+pI 126 (t.drop a))).a+42<=t.length
   omega
  .exact h3
theorem Pg(k:Int)(t:List UInt8)(a:Nat)(h:a<=t.length):(rX k t a).a<=t.length:=by
 unfold rX
 cases e:iT t a
 .exact h
 .simp only[iT,a5I,a5M] at e
  show a+1<=t.length
  omega
theorem Pm(k:Int)(t:List UInt8)(x y:RI)(h:y.a<=t.length):(rr k t x y).a<=t.length:=by
 unfold rr
 cases e:x.ok&&y.ok&&cC t y.a [41]
 .exact h
 .simp only[a5I] at e
  have:=lZ t _ 41 [] e.2
  simpa using this
theorem IT(t:List UInt8):∀ (D a:Nat),a<=t.length->(dB t D a).a<=t.length
 | 0,a,h=>h
 | D+1,a,h=>by
  have hx:∀ a,a<=t.length->(kr (dB t D) t a).a<=t.length:=O1 (dB t D) t (IT t D)
  unfold dB
  split
  .rename_i e;exact lZ t a 48 [] e
  .split
   .rename_i e;exact lZ t a 49 [] e
   .split
    .rename_i e;exact Pg 3 t _ (lZ t a 116 [] e)
    .split
     .rename_i e;exact Pg 4 t _ (lZ t a 97 [] e)
     .split
      .exact h
      .rename_i e
       have e':cC t a [40]=true:=by simpa using e
       have h1:=hx _ (lZ t a 40 [] e')
       split
       .rename_i e2;exact Pm 6 t _ _ (hx _ (lZ t _ 32 [43,32] e2))
       .split
        .rename_i e2;exact Pm 7 t _ _ (hx _ (lZ t _ 32 [] e2))
        .exact h1
theorem UG(t:List UInt8)(d a:Int)(h0:0<=a)(h:a<=(t.length:Int)):((xE t d a).a:Int)<=(t.length:Int):=by
 have:=O1 (dB t (d+1).toNat) t (IT t _) a.toNat (by omega)
 unfold xE;omega
theorem Vs(t:List UInt8)(a:Int)(p:List UInt8)(h0:0<=a):0<=au t a p:=by
 unfold au;cases cC t a.toNat p<;>simp<;>omega
theorem Vt(t:List UInt8)(a:Int)(p:List UInt8)(h0:0<=a)(h:a<=(t.length:Int)):au t a p<=(t.length:Int):=by
 unfold au
 cases e:cC t a.toNat p
 .exact h
 .rcases N6 t _ p e with g|g
  .simp only[a8k];omega
  .subst g;simpa using h
theorem GS(t:List UInt8)(a:Int)(h0:0<=a):0<=zu t a:=by
 unfold zu;cases iT t a.toNat<;>simp<;>omega
theorem LI(t:List UInt8)(a:Int)(h0:0<=a)(h:a<=(t.length:Int)):zu t a<=(t.length:Int):=by
 unfold zu
 cases e:iT t a.toNat
 .exact h
 .simp only[iT,a5I,a5M] at e
  simp only[a8k];omega
theorem Tv(t:List UInt8)(d a:Int)(h:d<0)(ha:0<=a):(dB t (d+1).toNat a.toNat).e=zX/\(dB t (d+1).toNat a.toNat).ok=false/\((dB t (d+1).toNat a.toNat).a:Int)=a:=by
 rw[show (d+1).toNat=0 by omega]
 exact⟨rfl,rfl,by show ((a.toNat:Nat):Int)=a;omega⟩
theorem xZ(t:List UInt8)(d a:Int)(h:¬ d<0)(ha:0<=a):dB t (d+1).toNat a.toNat =
  if cC t a.toNat [48]=true then ⟨O.mk 1 0 [],true,a.toNat+1⟩ else if cC t a.toNat [49]=true then ⟨O.mk 2 0 [],true,a.toNat+1⟩ else
  if cC t a.toNat [116]=true then rX 3 t (a+1).toNat else if cC t a.toNat [97]=true then rX 4 t (a+1).toNat else if cC t a.toNat [40]=false then ⟨zX,false,a.toNat⟩ else
  if cC t (xE t (d - 1) (a+1)).a [32,43,32]=true then rr 6 t (xE t (d - 1) (a+1)) (xE t (d - 1) (((xE t (d - 1) (a+1)).a:Int)+3)) else
  if cC t (xE t (d - 1) (a+1)).a [32]=true then rr 7 t (xE t (d - 1) (a+1)) (xE t (d - 1) (((xE t (d - 1) (a+1)).a:Int)+1)) else
  ⟨zX,false,(xE t (d - 1) (a+1)).a⟩:=by
 obtain⟨D,hD⟩:∃ D:Nat,d=(D:Int):=⟨d.toNat,by omega⟩
 subst hD
 have e1:((D:Int)+1).toNat=D+1:=by omega
 have e2:((D:Int) - 1+1).toNat=D:=by omega
 have e3:(a+1).toNat=a.toNat+1:=by omega
 have e4:∀ n:Nat,((n:Int)+3).toNat=n+3:=λ n=>by omega
 have e5:∀ n:Nat,((n:Int)+1).toNat=n+1:=λ n=>by omega
 unfold xE
 rw[e1,e2,e3]
 simp only[e4,e5]
 rw[dB]
theorem zZ(t:List UInt8)(a:Int)(p:List UInt8)(h:cC t a.toNat p=false):au t a p=a:=by unfold au;rw[h];rfl
theorem uB(t:List UInt8)(a:Int)(c:UInt8)(h:cC t a.toNat [c]=true):au t a [c]=a+1:=by unfold au;rw[h];rfl
theorem a0c(t:List UInt8)(a:Int)(c d e:UInt8)(h:cC t a.toNat [c,d,e]=true):au t a [c,d,e]=a+3:=by unfold au;rw[h];rfl
theorem V3(k:Int)(t:List UInt8)(a:Int)(h:0<=a):rX k t a.toNat=⟨O.mk k (DC t a) [],iT t a.toNat,(zu t a).toNat⟩:=by
 unfold rX DC zu
 cases iT t a.toNat
 .rfl
 .simp only[a8k,RI.mk.injEq,a6J];omega
theorem SG(k:Int)(t:List UInt8)(x y:RI):(rr k t x y).e=O.mk k 0 [x.e,y.e]:=by unfold rr;cases x.ok&&y.ok&&cC t y.a [41]<;>rfl
theorem Pn(k:Int)(t:List UInt8)(x y:RI):(rr k t x y).ok=(x.ok&&y.ok&&cC t y.a [41]):=by unfold rr;cases x.ok&&y.ok&&cC t y.a [41]<;>rfl
theorem SF(k:Int)(t:List UInt8)(x y:RI):((rr k t x y).a:Int)=bif x.ok&&y.ok then au t (y.a:Int) [41] else (y.a:Int):=by
 unfold rr au
 rw[a5X]
 cases x.ok<;>cases y.ok<;>cases cC t y.a [41]<;>rfl
theorem Sv(k:Int)(t:List UInt8)(a:Int)(h:0<=a):(rX k t (a+1).toNat).e=O.mk k (DC t (a+1)) []/\(rX k t (a+1).toNat).ok=iT t (a+1).toNat/\((rX k t (a+1).toNat).a:Int)=zu t (a+1):=by
 rw[V3 k t (a+1) (by omega)]
 have:=GS t (a+1) (by omega)
 exact⟨rfl,rfl,by show ((zu t (a+1)).toNat:Int)=_;omega⟩
theorem OW(c:UInt8):∀ (l:List UInt8) (k:Nat),k<=pI c l->(k<pI c l↔∃ r,l.drop k=c::r)
 | [],k,h=>by simp[pI]
 | b::l,k,h=>by
  unfold pI at h ⊢
  split at h
  .rename_i e
   rw[a5T e]
   cases k with
   | zero=>exact⟨λ _=>⟨l,by rw[e];rfl⟩,λ _=>by omega⟩
   | succ k =>
    have:=OW c l k (by omega)
    rw[a8U,<-this];omega
  .rename_i e
   rw[a5J e]
   have hk:k=0:=by omega
   subst hk
   refine⟨λ h=>by omega,λ ⟨r,hr⟩=>?_⟩
   simp only[a8c,a5L] at hr
   exact absurd hr.1 e
theorem Vu(t:List UInt8)(n k:Nat)(c:UInt8)(h:k<=pI c (t.drop n)):cC t (n+k) [c]=decide (k<pI c (t.drop n)):=by
 have h1:=OW c (t.drop n) k h
 rw[a8b] at h1
 rw[a8L,a5M,h1,Ij]
 exact⟨λ ⟨r,hr⟩=>⟨r,hr⟩,λ ⟨r,hr⟩=>⟨r,hr⟩⟩
theorem a2N(t:List UInt8)(a:Int)(k:Nat)(ha:0<=a)(h:k<=nE t a):cC t (a+(k:Int)).toNat [126]=decide (k<nE t a):=by
 rw[show (a+(k:Int)).toNat=a.toNat+k by omega];exact Vu t a.toNat k 126 h
theorem a2M(t:List UInt8)(d a:Int)(k:Nat)(h:k<=mE t d a):cC t (((rE t d a).a:Int)+(k:Int)).toNat [42]=decide (k<mE t d a):=by
 rw[show (((rE t d a).a:Int)+(k:Int)).toNat=(rE t d a).a+k by omega];exact Vu t _ k 42 h
theorem X4(t:List UInt8)(a:Int)(h0:0<=a)(h:a<=(t.length:Int)):a+(nE t a:Int)<=(t.length:Int):=by
 have:=C0 126 t a.toNat (by omega)
 unfold nE;omega
theorem a2z(t:List UInt8)(d a:Int)(h0:0<=a)(h:a<=(t.length:Int)):((rE t d a).a:Int)+(mE t d a:Int)<=(t.length:Int):=by
 have h1:=X4 t a h0 h
 have h2:=IT t (d+1).toNat (a.toNat+nE t a) (by omega)
 have h3:=C0 42 t _ h2
 have:(rE t d a).a+mE t d a<=t.length:=h3
 omega
theorem Yk(t:List UInt8)(d a:Int)(ha:0<=a):dB t (d+1).toNat (a+(nE t a:Int)).toNat=rE t d a:=by
 rw[show (a+(nE t a:Int)).toNat=a.toNat+nE t a by omega];rfl
theorem UF(t:List UInt8)(d a:Int):xE t d a=if 40<nE t a then ⟨zX,false,a.toNat+nE t a⟩ else if 41<mE t d a then ⟨zX,false,(rE t d a).a+42⟩ else
  ⟨bI 8 (mE t d a) (bI 5 (nE t a) (rE t d a).e),(rE t d a).ok,(rE t d a).a+mE t d a⟩:=rfl
theorem YW(t:List UInt8)(d a:Int)(ha:0<=a)(h:40<nE t a):(xE t d a).e=zX/\(xE t d a).ok=false/\((xE t d a).a:Int)=a+(nE t a:Int):=by
 rw[UF,a5T h]
 exact⟨rfl,rfl,by show ((a.toNat+nE t a:Nat):Int)=_;omega⟩
theorem Ww(t:List UInt8)(d a:Int)(h:¬ 40<nE t a)(h2:41<mE t d a):(xE t d a).e=zX/\(xE t d a).ok=false/\((xE t d a).a:Int)=((rE t d a).a:Int)+42:=by
 rw[UF,a5J h,a5T h2]
 exact⟨rfl,rfl,rfl⟩
theorem YV(t:List UInt8)(d a:Int)(h:¬ 40<nE t a)(h2:¬ 41<mE t d a):(xE t d a).e=bI 8 (mE t d a) (bI 5 (nE t a) (rE t d a).e)/\(xE t d a).ok=(rE t d a).ok/\((xE t d a).a:Int)=((rE t d a).a:Int)+(mE t d a:Int):=by
 rw[UF,a5J h,a5J h2]
 exact⟨rfl,rfl,rfl⟩
structure Qv(r:RI)(e:O)(ok:Bool)(a:Int):Prop where
 e:r.e=e
 ok:r.ok=ok
 a:(r.a:Int)=a
def cZ(t:List UInt8)(d a:Int):RI:=dB t (d+1).toNat a.toNat
theorem Y7(t:List UInt8)(d a:Int)(h:d<0)(ha:0<=a):Qv (cZ t d a) zX false a:=by
 obtain⟨h1,h2,h3⟩:=Tv t d a h ha
 exact⟨h1,h2,h3⟩
theorem a3t(t:List UInt8)(d a:Int)(h:¬ d<0)(ha:0<=a)(h1:cC t a.toNat [48]=true):Qv (cZ t d a) (O.mk 1 0 []) true (a+1):=by
 unfold cZ;rw[xZ t d a h ha,if_pos h1]
 exact⟨rfl,rfl,by show ((a.toNat+1:Nat):Int)=_;omega⟩
theorem a3u(t:List UInt8)(d a:Int)(h:¬ d<0)(ha:0<=a)(h1:cC t a.toNat [48]=false)(h2:cC t a.toNat [49]=true):Qv (cZ t d a) (O.mk 2 0 []) true (a+1):=by
 unfold cZ;rw[xZ t d a h ha,if_neg (by rw[h1];decide),if_pos h2]
 exact⟨rfl,rfl,by show ((a.toNat+1:Nat):Int)=_;omega⟩
theorem a1L(t:List UInt8)(d a:Int)(h:¬ d<0)(ha:0<=a)(h1:cC t a.toNat [48]=false)(h2:cC t a.toNat [49]=false)(h3:cC t a.toNat [116]=true):Qv (cZ t d a) (O.mk 3 (DC t (a+1)) []) (iT t (a+1).toNat) (zu t (a+1)):=by
 unfold cZ;rw[xZ t d a h ha,if_neg (by rw[h1];decide),if_neg (by rw[h2];decide),if_pos h3]
 obtain⟨g1,g2,g3⟩:=Sv 3 t a ha
 exact⟨g1,g2,g3⟩
theorem a3v(t:List UInt8)(d a:Int)(h:¬ d<0)(ha:0<=a)(h1:cC t a.toNat [48]=false)(h2:cC t a.toNat [49]=false)(h3:cC t a.toNat [116]=false)(h4:cC t a.toNat [97]=true):Qv (cZ t d a) (O.mk 4 (DC t (a+1)) []) (iT t (a+1).toNat) (zu t (a+1)):=by
 unfold cZ;rw[xZ t d a h ha,if_neg (by rw[h1];decide),if_neg (by rw[h2];decide),if_neg (by rw[h3];decide),if_pos h4]
 obtain⟨g1,g2,g3⟩:=Sv 4 t a ha
 exact⟨g1,g2,g3⟩
theorem a3w(t:List UInt8)(d a:Int)(h:¬ d<0)(ha:0<=a)(h1:cC t a.toNat [48]=false)(h2:cC t a.toNat [49]=false)(h3:cC t a.toNat [116]=false)(h4:cC t a.toNat [97]=false)(h5:cC t a.toNat [40]=false):Qv (cZ t d a) zX false a:=by
 unfold cZ;rw[xZ t d a h ha,if_neg (by rw[h1];decide),if_neg (by rw[h2];decide),if_neg (by rw[h3];decide),if_neg (by rw[h4];decide),if_pos h5]
 exact⟨rfl,rfl,by show ((a.toNat:Nat):Int)=_;omega⟩
def Wc(t:List UInt8)(x y:RI):Int:=bif x.ok&&y.ok then au t (y.a:Int) [41] else (y.a:Int)
theorem LP(t:List UInt8)(x y:RI)(h:x.ok=false\/y.ok=false):Wc t x y=(y.a:Int):=by unfold Wc;rcases h with h|h<;>rw[h]<;>simp
theorem Vf(t:List UInt8)(x y:RI)(h:x.ok=true)(h':y.ok=true):Wc t x y=au t (y.a:Int) [41]:=by unfold Wc;rw[h,h'];rfl
theorem a3s(t:List UInt8)(d a:Int)(h:¬ d<0)(ha:0<=a)(h1:cC t a.toNat [48]=false)(h2:cC t a.toNat [49]=false)(h3:cC t a.toNat [116]=false)(h4:cC t a.toNat [97]=false)(h5:cC t a.toNat [40]=true)(X:RI)(hX:X=xE t (d - 1) (a+1)) :
  (cC t X.a [32,43,32]=true->Qv (cZ t d a) (O.mk 6 0 [X.e,(xE t (d - 1) ((X.a:Int)+3)).e]) (X.ok&&(xE t (d - 1) ((X.a:Int)+3)).ok&&cC t (xE t (d - 1) ((X.a:Int)+3)).a [41]) (Wc t X (xE t (d - 1) ((X.a:Int)+3)))) /\
  (cC t X.a [32,43,32]=false->cC t X.a [32]=true->Qv (cZ t d a) (O.mk 7 0 [X.e,(xE t (d - 1) ((X.a:Int)+1)).e]) (X.ok&&(xE t (d - 1) ((X.a:Int)+1)).ok&&cC t (xE t (d - 1) ((X.a:Int)+1)).a [41]) (Wc t X (xE t (d - 1) ((X.a:Int)+1)))) /\
  (cC t X.a [32,43,32]=false->cC t X.a [32]=false->Qv (cZ t d a) zX false (X.a:Int)):=by
 unfold cZ;rw[xZ t d a h ha,if_neg (by rw[h1];decide),if_neg (by rw[h2];decide),if_neg (by rw[h3];decide),if_neg (by rw[h4];decide),if_neg (by rw[h5];decide),<-hX]
 refine⟨λ e=>?_,λ e e'=>?_,λ e e'=>?_⟩
 .rw[a5T e];exact⟨SG _ _ _ _,Pn _ _ _ _,SF _ _ _ _⟩
 .rw[a5J (by rw[e];decide),a5T e'];exact⟨SG _ _ _ _,Pn _ _ _ _,SF _ _ _ _⟩
 .rw[a5J (by rw[e];decide),a5J (by rw[e'];decide)];exact⟨rfl,rfl,rfl⟩
def fE(n:Nat):fY:=⟨oM,[[.d .str, .d (.int .i64)]],[.b 0, .v (.int .i64)],[[.str,(.int .i64)]],λ (d:Int) (t:List UInt8) (a:Int)=>⟨(some (2 * (d+1).toNat<n/\0<=a/\a<=(t.length:Int)/\t.length<=10000 /\ -1<=d/\d<=40),[⟨(.st .expr),(cZ t d a).e⟩,⟨.bool,(cZ t d a).ok⟩],[[⟨.str,t⟩,⟨(.int .i64),((cZ t d a).a:Int)⟩]])⟩⟩
def fF(n:Nat):fY:=⟨ki,[[.d .str, .d (.int .i64)]],[.b 0, .v (.int .i64)],[[.str,(.int .i64)]],λ (d:Int) (t:List UInt8) (a:Int)=>⟨(some (2 * (d+1).toNat+1<n/\0<=a/\a<=(t.length:Int)/\t.length<=10000 /\ -1<=d/\d<=40),[⟨(.st .expr),(xE t d a).e⟩,⟨.bool,(xE t d a).ok⟩],[[⟨.str,t⟩,⟨(.int .i64),((xE t d a).a:Int)⟩]])⟩⟩
def jN:fY:=⟨ki,[[.d .str, .d (.int .i64)]],[.b 0, .v (.int .i64)],[[.str,(.int .i64)]],λ (d:Int) (t:List UInt8) (a:Int)=>⟨(some (0<=a/\a<=(t.length:Int)/\t.length<=10000 /\ -1<=d/\d<=40),[⟨(.st .expr),(xE t d a).e⟩,⟨.bool,(xE t d a).ok⟩],[[⟨.str,t⟩,⟨(.int .i64),((xE t d a).a:Int)⟩]])⟩⟩
def tg(d:Int)(t:List UInt8)(a:Int):Nat->aX:=λ _ => .none
theorem Bn(n:Nat)(d:Int)(t:List UInt8)(a:Int):cU (dj [] [oW,gX] [] [22,26,36,47,57,70,76,77] [] [] [] [dx,fC,fF n]) (aF eP) (tg d t a) 0 (gS (dj [] [oW,gX] [] [22,26,36,47,57,70,76,77] [] [] [] [dx,fC,fF n]) eP [[.d .str, .d (.int .i64)]] λ r ds=>bH r [⟨(.st .expr),(cZ t d a).e⟩,⟨.bool,(cZ t d a).ok⟩]/\jv ds [[⟨.str,t⟩,⟨(.int .i64),((cZ t d a).a:Int)⟩]]) (cB eP [.box 0, .val ⟨(.int .i64),d⟩] [[.d .str, .d (.int .i64)]] [[⟨.str,t⟩,⟨(.int .i64),a⟩]]) =
 ((((decide (d<(0:Int)))=true ->
 ((zE=((cZ t d a).e)/\false=((cZ t d a).ok))/\((t=t/\a=((cZ t d a).a:Int))/\True)))/\((decide (d<(0:Int)))=false ->
 ((0<=a/\a<=(t.length:Int)/\t.length<=10000/\([48]).length<=10/\1<=([48]).length)/\(((cC t a.toNat ([48]))=true ->
 (((aC (O.mk (1:Int) (0:Int) []))=((cZ t d a).e)/\true=((cZ t d a).ok))/\((t=t/\(au t a ([48]))=((cZ t d a).a:Int))/\True)))/\((cC t a.toNat ([48]))=false ->
 ((0<=(au t a ([48]))/\(au t a ([48]))<=(t.length:Int)/\t.length<=10000/\([49]).length<=10/\1<=([49]).length)/\(((cC t (au t a ([48])).toNat ([49]))=true ->
 (((aC (O.mk (2:Int) (0:Int) []))=((cZ t d a).e)/\true=((cZ t d a).ok))/\((t=t/\(au t (au t a ([48])) ([49]))=((cZ t d a).a:Int))/\True)))/\((cC t (au t a ([48])).toNat ([49]))=false ->
 ((0<=(au t (au t a ([48])) ([49]))/\(au t (au t a ([48])) ([49]))<=(t.length:Int)/\t.length<=10000/\([116]).length<=10/\1<=([116]).length)/\(((cC t (au t (au t a ([48])) ([49])).toNat ([116]))=true ->
 ((0<=(au t (au t (au t a ([48])) ([49])) ([116]))/\(au t (au t (au t a ([48])) ([49])) ([116]))<=(t.length:Int)/\t.length<=10000)/\(ag (DC t (au t (au t (au t a ([48])) ([49])) ([116]))) ->
 (((aC (O.mk (3:Int) (DC t (au t (au t (au t a ([48])) ([49])) ([116]))) []))=((cZ t d a).e)/\(iT t (au t (au t (au t a ([48])) ([49])) ([116])).toNat)=((cZ t d a).ok))/\((t=t/\(zu t (au t (au t (au t a ([48])) ([49])) ([116])))=((cZ t d a).a:Int))/\True)))))/\((cC t (au t (au t a ([48])) ([49])).toNat ([116]))=false ->
 ((0<=(au t (au t (au t a ([48])) ([49])) ([116]))/\(au t (au t (au t a ([48])) ([49])) ([116]))<=(t.length:Int)/\t.length<=10000/\([97]).length<=10/\1<=([97]).length)/\(((cC t (au t (au t (au t a ([48])) ([49])) ([116])).toNat ([97]))=true ->
 ((0<=(au t (au t (au t (au t a ([48])) ([49])) ([116])) ([97]))/\(au t (au t (au t (au t a ([48])) ([49])) ([116])) ([97]))<=(t.length:Int)/\t.length<=10000)/\(ag (DC t (au t (au t (au t (au t a ([48])) ([49])) ([116])) ([97]))) ->
 (((aC (O.mk (4:Int) (DC t (au t (au t (au t (au t a ([48])) ([49])) ([116])) ([97]))) []))=((cZ t d a).e)/\(iT t (au t (au t (au t (au t a ([48])) ([49])) ([116])) ([97])).toNat)=((cZ t d a).ok))/\((t=t/\(zu t (au t (au t (au t (au t a ([48])) ([49])) ([116])) ([97])))=((cZ t d a).a:Int))/\True)))))/\((cC t (au t (au t (au t a ([48])) ([49])) ([116])).toNat ([97]))=false ->
 ((0<=(au t (au t (au t (au t a ([48])) ([49])) ([116])) ([97]))/\(au t (au t (au t (au t a ([48])) ([49])) ([116])) ([97]))<=(t.length:Int)/\t.length<=10000/\([40]).length<=10/\1<=([40]).length)/\(((!(cC t (au t (au t (au t (au t a ([48])) ([49])) ([116])) ([97])).toNat ([40])))=true ->
 ((zE=((cZ t d a).e)/\false=((cZ t d a).ok))/\((t=t/\(au t (au t (au t (au t (au t a ([48])) ([49])) ([116])) ([97])) ([40]))=((cZ t d a).a:Int))/\True)))/\((!(cC t (au t (au t (au t (au t a ([48])) ([49])) ([116])) ([97])).toNat ([40])))=false ->
 (ag (d - (1:Int))/\((2 * ((d - (1:Int))+1).toNat+1<n/\0<=(au t (au t (au t (au t (au t a ([48])) ([49])) ([116])) ([97])) ([40]))/\(au t (au t (au t (au t (au t a ([48])) ([49])) ([116])) ([97])) ([40]))<=(t.length:Int)/\t.length<=10000 /\ -1<=(d - (1:Int))/\(d - (1:Int))<=40)/\((0<=(((xE t (d - (1:Int)) (au t (au t (au t (au t (au t a ([48])) ([49])) ([116])) ([97])) ([40]))).a:Int))/\(((xE t (d - (1:Int)) (au t (au t (au t (au t (au t a ([48])) ([49])) ([116])) ([97])) ([40]))).a:Int))<=(t.length:Int)/\t.length<=10000/\([32,43,32]).length<=10/\1<=([32,43,32]).length)/\(((cC t (((xE t (d - (1:Int)) (au t (au t (au t (au t (au t a ([48])) ([49])) ([116])) ([97])) ([40]))).a:Int)).toNat ([32,43,32]))=true ->
 (ag (d - (1:Int))/\((2 * ((d - (1:Int))+1).toNat+1<n/\0<=(au t (((xE t (d - (1:Int)) (au t (au t (au t (au t (au t a ([48])) ([49])) ([116])) ([97])) ([40]))).a:Int)) ([32,43,32]))/\(au t (((xE t (d - (1:Int)) (au t (au t (au t (au t (au t a ([48])) ([49])) ([116])) ([97])) ([40]))).a:Int)) ([32,43,32]))<=(t.length:Int)/\t.length<=10000 /\ -1<=(d - (1:Int))/\(d - (1:Int))<=40)/\((((xE t (d - (1:Int)) (au t (au t (au t (au t (au t a ([48])) ([49])) ([116])) ([97])) ([40]))).ok)=true ->
 ((((xE t (d - (1:Int)) (au t (((xE t (d - (1:Int)) (au t (au t (au t (au t (au t a ([48])) ([49])) ([116])) ([97])) ([40]))).a:Int)) ([32,43,32]))).ok)=true ->
 ((0<=(((xE t (d - (1:Int)) (au t (((xE t (d - (1:Int)) (au t (au t (au t (au t (au t a ([48])) ([49])) ([116])) ([97])) ([40]))).a:Int)) ([32,43,32]))).a:Int))/\(((xE t (d - (1:Int)) (au t (((xE t (d - (1:Int)) (au t (au t (au t (au t (au t a ([48])) ([49])) ([116])) ([97])) ([40]))).a:Int)) ([32,43,32]))).a:Int))<=(t.length:Int)/\t.length<=10000/\([41]).length<=10/\1<=([41]).length)/\(((aC (O.mk (6:Int) 0 ([(aC ((xE t (d - (1:Int)) (au t (au t (au t (au t (au t a ([48])) ([49])) ([116])) ([97])) ([40]))).e)),(aC ((xE t (d - (1:Int)) (au t (((xE t (d - (1:Int)) (au t (au t (au t (au t (au t a ([48])) ([49])) ([116])) ([97])) ([40]))).a:Int)) ([32,43,32]))).e))])))=((cZ t d a).e)/\(cC t (((xE t (d - (1:Int)) (au t (((xE t (d - (1:Int)) (au t (au t (au t (au t (au t a ([48])) ([49])) ([116])) ([97])) ([40]))).a:Int)) ([32,43,32]))).a:Int)).toNat ([41]))=((cZ t d a).ok))/\((t=t/\(au t (((xE t (d - (1:Int)) (au t (((xE t (d - (1:Int)) (au t (au t (au t (au t (au t a ([48])) ([49])) ([116])) ([97])) ([40]))).a:Int)) ([32,43,32]))).a:Int)) ([41]))=((cZ t d a).a:Int))/\True))))/\(((xE t (d - (1:Int)) (au t (((xE t (d - (1:Int)) (au t (au t (au t (au t (au t a ([48])) ([49])) ([116])) ([97])) ([40]))).a:Int)) ([32,43,32]))).ok)=(!true) ->
 (((aC (O.mk (6:Int) 0 ([(aC ((xE t (d - (1:Int)) (au t (au t (au t (au t (au t a ([48])) ([49])) ([116])) ([97])) ([40]))).e)),(aC ((xE t (d - (1:Int)) (au t (((xE t (d - (1:Int)) (au t (au t (au t (au t (au t a ([48])) ([49])) ([116])) ([97])) ([40]))).a:Int)) ([32,43,32]))).e))])))=((cZ t d a).e)/\false=((cZ t d a).ok))/\((t=t/\(((xE t (d - (1:Int)) (au t (((xE t (d - (1:Int)) (au t (au t (au t (au t (au t a ([48])) ([49])) ([116])) ([97])) ([40]))).a:Int)) ([32,43,32]))).a:Int))=((cZ t d a).a:Int))/\True)))))/\(((xE t (d - (1:Int)) (au t (au t (au t (au t (au t a ([48])) ([49])) ([116])) ([97])) ([40]))).ok)=(!true) ->
 ((false=true ->
 ((0<=(((xE t (d - (1:Int)) (au t (((xE t (d - (1:Int)) (au t (au t (au t (au t (au t a ([48])) ([49])) ([116])) ([97])) ([40]))).a:Int)) ([32,43,32]))).a:Int))/\(((xE t (d - (1:Int)) (au t (((xE t (d - (1:Int)) (au t (au t (au t (au t (au t a ([48])) ([49])) ([116])) ([97])) ([40]))).a:Int)) ([32,43,32]))).a:Int))<=(t.length:Int)/\t.length<=10000/\([41]).length<=10/\1<=([41]).length)/\(((aC (O.mk (6:Int) 0 ([(aC ((xE t (d - (1:Int)) (au t (au t (au t (au t (au t a ([48])) ([49])) ([116])) ([97])) ([40]))).e)),(aC ((xE t (d - (1:Int)) (au t (((xE t (d - (1:Int)) (au t (au t (au t (au t (au t a ([48])) ([49])) ([116])) ([97])) ([40]))).a:Int)) ([32,43,32]))).e))])))=((cZ t d a).e)/\(cC t (((xE t (d - (1:Int)) (au t (((xE t (d - (1:Int)) (au t (au t (au t (au t (au t a ([48])) ([49])) ([116])) ([97])) ([40]))).a:Int)) ([32,43,32]))).a:Int)).toNat ([41]))=((cZ t d a).ok))/\((t=t/\(au t (((xE t (d - (1:Int)) (au t (((xE t (d - (1:Int)) (au t (au t (au t (au t (au t a ([48])) ([49])) ([116])) ([97])) ([40]))).a:Int)) ([32,43,32]))).a:Int)) ([41]))=((cZ t d a).a:Int))/\True))))/\(false=(!true) ->
 (((aC (O.mk (6:Int) 0 ([(aC ((xE t (d - (1:Int)) (au t (au t (au t (au t (au t a ([48])) ([49])) ([116])) ([97])) ([40]))).e)),(aC ((xE t (d - (1:Int)) (au t (((xE t (d - (1:Int)) (au t (au t (au t (au t (au t a ([48])) ([49])) ([116])) ([97])) ([40]))).a:Int)) ([32,43,32]))).e))])))=((cZ t d a).e)/\false=((cZ t d a).ok))/\((t=t/\(((xE t (d - (1:Int)) (au t (((xE t (d - (1:Int)) (au t (au t (au t (au t (au t a ([48])) ([49])) ([116])) ([97])) ([40]))).a:Int)) ([32,43,32]))).a:Int))=((cZ t d a).a:Int))/\True)))))))))/\((cC t (((xE t (d - (1:Int)) (au t (au t (au t (au t (au t a ([48])) ([49])) ([116])) ([97])) ([40]))).a:Int)).toNat ([32,43,32]))=false ->
 ((0<=(au t (((xE t (d - (1:Int)) (au t (au t (au t (au t (au t a ([48])) ([49])) ([116])) ([97])) ([40]))).a:Int)) ([32,43,32]))/\(au t (((xE t (d - (1:Int)) (au t (au t (au t (au t (au t a ([48])) ([49])) ([116])) ([97])) ([40]))).a:Int)) ([32,43,32]))<=(t.length:Int)/\t.length<=10000/\([32]).length<=10/\1<=([32]).length)/\(((!(cC t (au t (((xE t (d - (1:Int)) (au t (au t (au t (au t (au t a ([48])) ([49])) ([116])) ([97])) ([40]))).a:Int)) ([32,43,32])).toNat ([32])))=true ->
 ((zE=((cZ t d a).e)/\false=((cZ t d a).ok))/\((t=t/\(au t (au t (((xE t (d - (1:Int)) (au t (au t (au t (au t (au t a ([48])) ([49])) ([116])) ([97])) ([40]))).a:Int)) ([32,43,32])) ([32]))=((cZ t d a).a:Int))/\True)))/\((!(cC t (au t (((xE t (d - (1:Int)) (au t (au t (au t (au t (au t a ([48])) ([49])) ([116])) ([97])) ([40]))).a:Int)) ([32,43,32])).toNat ([32])))=false ->
 (ag (d - (1:Int))/\((2 * ((d - (1:Int))+1).toNat+1<n/\0<=(au t (au t (((xE t (d - (1:Int)) (au t (au t (au t (au t (au t a ([48])) ([49])) ([116])) ([97])) ([40]))).a:Int)) ([32,43,32])) ([32]))/\(au t (au t (((xE t (d - (1:Int)) (au t (au t (au t (au t (au t a ([48])) ([49])) ([116])) ([97])) ([40]))).a:Int)) ([32,43,32])) ([32]))<=(t.length:Int)/\t.length<=10000 /\ -1<=(d - (1:Int))/\(d - (1:Int))<=40)/\((((xE t (d - (1:Int)) (au t (au t (au t (au t (au t a ([48])) ([49])) ([116])) ([97])) ([40]))).ok)=true ->
 ((((xE t (d - (1:Int)) (au t (au t (((xE t (d - (1:Int)) (au t (au t (au t (au t (au t a ([48])) ([49])) ([116])) ([97])) ([40]))).a:Int)) ([32,43,32])) ([32]))).ok)=true ->
 ((0<=(((xE t (d - (1:Int)) (au t (au t (((xE t (d - (1:Int)) (au t (au t (au t (au t (au t a ([48])) ([49])) ([116])) ([97])) ([40]))).a:Int)) ([32,43,32])) ([32]))).a:Int))/\(((xE t (d - (1:Int)) (au t (au t (((xE t (d - (1:Int)) (au t (au t (au t (au t (au t a ([48])) ([49])) ([116])) ([97])) ([40]))).a:Int)) ([32,43,32])) ([32]))).a:Int))<=(t.length:Int)/\t.length<=10000/\([41]).length<=10/\1<=([41]).length)/\(((aC (O.mk (7:Int) 0 ([(aC ((xE t (d - (1:Int)) (au t (au t (au t (au t (au t a ([48])) ([49])) ([116])) ([97])) ([40]))).e)),(aC ((xE t (d - (1:Int)) (au t (au t (((xE t (d - (1:Int)) (au t (au t (au t (au t (au t a ([48])) ([49])) ([116])) ([97])) ([40]))).a:Int)) ([32,43,32])) ([32]))).e))])))=((cZ t d a).e)/\(cC t (((xE t (d - (1:Int)) (au t (au t (((xE t (d - (1:Int)) (au t (au t (au t (au t (au t a ([48])) ([49])) ([116])) ([97])) ([40]))).a:Int)) ([32,43,32])) ([32]))).a:Int)).toNat ([41]))=((cZ t d a).ok))/\((t=t/\(au t (((xE t (d - (1:Int)) (au t (au t (((xE t (d - (1:Int)) (au t (au t (au t (au t (au t a ([48])) ([49])) ([116])) ([97])) ([40]))).a:Int)) ([32,43,32])) ([32]))).a:Int)) ([41]))=((cZ t d a).a:Int))/\True))))/\(((xE t (d - (1:Int)) (au t (au t (((xE t (d - (1:Int)) (au t (au t (au t (au t (au t a ([48])) ([49])) ([116])) ([97])) ([40]))).a:Int)) ([32,43,32])) ([32]))).ok)=(!true) ->
 (((aC (O.mk (7:Int) 0 ([(aC ((xE t (d - (1:Int)) (au t (au t (au t (au t (au t a ([48])) ([49])) ([116])) ([97])) ([40]))).e)),(aC ((xE t (d - (1:Int)) (au t (au t (((xE t (d - (1:Int)) (au t (au t (au t (au t (au t a ([48])) ([49])) ([116])) ([97])) ([40]))).a:Int)) ([32,43,32])) ([32]))).e))])))=((cZ t d a).e)/\false=((cZ t d a).ok))/\((t=t/\(((xE t (d - (1:Int)) (au t (au t (((xE t (d - (1:Int)) (au t (au t (au t (au t (au t a ([48])) ([49])) ([116])) ([97])) ([40]))).a:Int)) ([32,43,32])) ([32]))).a:Int))=((cZ t d a).a:Int))/\True)))))/\(((xE t (d - (1:Int)) (au t (au t (au t (au t (au t a ([48])) ([49])) ([116])) ([97])) ([40]))).ok)=(!true) ->
 ((false=true ->
 ((0<=(((xE t (d - (1:Int)) (au t (au t (((xE t (d - (1:Int)) (au t (au t (au t (au t (au t a ([48])) ([49])) ([116])) ([97])) ([40]))).a:Int)) ([32,43,32])) ([32]))).a:Int))/\(((xE t (d - (1:Int)) (au t (au t (((xE t (d - (1:Int)) (au t (au t (au t (au t (au t a ([48])) ([49])) ([116])) ([97])) ([40]))).a:Int)) ([32,43,32])) ([32]))).a:Int))<=(t.length:Int)/\t.length<=10000/\([41]).length<=10/\1<=([41]).length)/\(((aC (O.mk (7:Int) 0 ([(aC ((xE t (d - (1:Int)) (au t (au t (au t (au t (au t a ([48])) ([49])) ([116])) ([97])) ([40]))).e)),(aC ((xE t (d - (1:Int)) (au t (au t (((xE t (d - (1:Int)) (au t (au t (au t (au t (au t a ([48])) ([49])) ([116])) ([97])) ([40]))).a:Int)) ([32,43,32])) ([32]))).e))])))=((cZ t d a).e)/\(cC t (((xE t (d - (1:Int)) (au t (au t (((xE t (d - (1:Int)) (au t (au t (au t (au t (au t a ([48])) ([49])) ([116])) ([97])) ([40]))).a:Int)) ([32,43,32])) ([32]))).a:Int)).toNat ([41]))=((cZ t d a).ok))/\((t=t/\(au t (((xE t (d - (1:Int)) (au t (au t (((xE t (d - (1:Int)) (au t (au t (au t (au t (au t a ([48])) ([49])) ([116])) ([97])) ([40]))).a:Int)) ([32,43,32])) ([32]))).a:Int)) ([41]))=((cZ t d a).a:Int))/\True))))/\(false=(!true) ->
 (((aC (O.mk (7:Int) 0 ([(aC ((xE t (d - (1:Int)) (au t (au t (au t (au t (au t a ([48])) ([49])) ([116])) ([97])) ([40]))).e)),(aC ((xE t (d - (1:Int)) (au t (au t (((xE t (d - (1:Int)) (au t (au t (au t (au t (au t a ([48])) ([49])) ([116])) ([97])) ([40]))).a:Int)) ([32,43,32])) ([32]))).e))])))=((cZ t d a).e)/\false=((cZ t d a).ok))/\((t=t/\(((xE t (d - (1:Int)) (au t (au t (((xE t (d - (1:Int)) (au t (au t (au t (au t (au t a ([48])) ([49])) ([116])) ([97])) ([40]))).a:Int)) ([32,43,32])) ([32]))).a:Int))=((cZ t d a).a:Int))/\True)))))))))))))))))))))))))))))))))):=by kernel_rfl
theorem Bc(n:Nat)(hE:aQ [])(hO:iE [oW,gX])(hM:iS [])(hS:gU [dx,fC,fF n]):fY.Good (fE (n+1)):=by
 refine⟨aG nh rfl (by decide),?_⟩
 show ∀ (d:Int) (t:List UInt8) (a:Int),(2 * (d+1).toNat<n+1/\0<=a/\a<=(t.length:Int)/\t.length<=10000 /\ -1<=d/\d<=40)->p7 prog oM [[.d .str, .d (.int .i64)]] [.box 0, .val ⟨(.int .i64),d⟩] [[⟨.str,t⟩,⟨(.int .i64),a⟩]] [⟨(.st .expr),(cZ t d a).e⟩,⟨.bool,(cZ t d a).ok⟩] [[⟨.str,t⟩,⟨(.int .i64),((cZ t d a).a:Int)⟩]]
 intro d t a hp
 refine eN (own:=[22,26,36,47,57,70,76,77]) (wr:=[]) (cl:=[]) (ro:=[]) hE hO hM hS nh za (tg d t a) rfl rfl ?_
 rewrite [Bn n d t a]
 obtain⟨hm,h0,h1,h2,h3,h4⟩:=hp
 by_cases hd:d<0
 .obtain⟨q1,q2,q3⟩:=Y7 t d a hd h0
  simp only[a6L hd,q1,q2,q3,a6E,a6z,a6g,a5Z,a6l,a6h,a6p,a6q,a6v,a6A,a5R,a6J,a5X,ag,bE]
  repeat' (first|intro _|apply And.intro)
  all_goals first|exact True.intro|omega|with_reducible rfl|decide
 .have Hp:=a7n hd
  rcases a6j (cC t a.toNat [48]) with DD|DD
  .have k:=lZ t a.toNat 48 [] DD
   simp only[a5O,a6a] at k
   obtain⟨q1,q2,q3⟩:=a3t t d a hd h0 DD
   have b1:=GS t (a+1) (by omega)
   have b2:=LI t (a+1) (by omega) (by omega)
   simp only[Hp,DD,uB t a 48 DD,q1,q2,q3,a6E,a6z,a6g,a5Z,a6l,a6h,a6p,a6q,a6v,a6A,a5R,a6J,a5X,ag,bE]
   repeat' (first|intro _|apply And.intro)
   all_goals first|exact True.intro|omega|with_reducible rfl|decide
  .have f48:=zZ t a [48] DD
   rcases a6j (cC t a.toNat [49]) with GU|GU
   .have k:=lZ t a.toNat 49 [] GU
    simp only[a5O,a6a] at k
    obtain⟨q1,q2,q3⟩:=a3u t d a hd h0 DD GU
    have b1:=GS t (a+1) (by omega)
    have b2:=LI t (a+1) (by omega) (by omega)
    simp only[Hp,DD,f48,GU,uB t a 49 GU,q1,q2,q3,a6E,a6z,a6g,a5Z,a6l,a6h,a6p,a6q,a6v,a6A,a5R,a6J,a5X,ag,bE]
    repeat' (first|intro _|apply And.intro)
    all_goals first|exact True.intro|omega|with_reducible rfl|decide
   .have f49:=zZ t a [49] GU
    rcases a6j (cC t a.toNat [116]) with Am|Am
    .have k:=lZ t a.toNat 116 [] Am
     simp only[a5O,a6a] at k
     obtain⟨q1,q2,q3⟩:=a1L t d a hd h0 DD GU Am
     have b1:=GS t (a+1) (by omega)
     have b2:=LI t (a+1) (by omega) (by omega)
     simp only[Hp,DD,f48,GU,f49,Am,uB t a 116 Am,q1,q2,q3,a6E,a6z,a6g,a5Z,a6l,a6h,a6p,a6q,a6v,a6A,a5R,a6J,a5X,ag,bE]
     repeat' (first|intro _|apply And.intro)
     all_goals first|exact True.intro|omega|with_reducible rfl|decide
    .have f116:=zZ t a [116] Am
     rcases a6j (cC t a.toNat [97]) with On|On
     .have k:=lZ t a.toNat 97 [] On
      simp only[a5O,a6a] at k
      obtain⟨q1,q2,q3⟩:=a3v t d a hd h0 DD GU Am On
      have b1:=GS t (a+1) (by omega)
      have b2:=LI t (a+1) (by omega) (by omega)
      simp only[Hp,DD,f48,GU,f49,Am,f116,On,uB t a 97 On,q1,q2,q3,a6E,a6z,a6g,a5Z,a6l,a6h,a6p,a6q,a6v,a6A,a5R,a6J,a5X,ag,bE]
      repeat' (first|intro _|apply And.intro)
      all_goals first|exact True.intro|omega|with_reducible rfl|decide
     .have f97:=zZ t a [97] On
      rcases a6j (cC t a.toNat [40]) with RJ|RJ
      .have k:=lZ t a.toNat 40 [] RJ
       simp only[a5O,a6a] at k
       have g1:=uB t a 40 RJ
       have b1:=UG t (d - 1) (a+1) (by omega) (by omega)
       obtain⟨p1,p2,p3⟩:=a3s t d a hd h0 DD GU Am On RJ _ rfl
       simp only[Hp,DD,f48,GU,f49,Am,f116,On,f97,RJ,g1,a6E,a6z,a6g,a5Z,a6l,a6h,a6p,a6q,a6v,a6A,a5R,a6J,a5X,ag,bE]
       generalize xE t (d - 1) (a+1)=X at *
       rcases a6j (cC t X.a [32,43,32]) with eS|eS
       .skip
        have k2:=lZ t _ 32 [43,32] eS
        simp only[a5O,a6a] at k2
        have g2:=a0c t (X.a:Int) 32 43 32 (by rw[a5X];exact eS)
        obtain⟨q1,q2,q3⟩:=p1 eS
        have b2:=UG t (d - 1) ((X.a:Int)+3) (by omega) (by omega)
        simp only[eS,g2,q1,q2,q3,a6E,a6z,a6g,a5Z,a6l,a6h,a6p,a6q,a6v,a6A,a5R,a6J,a5X,ag,bE]
        generalize xE t (d - 1) ((X.a:Int)+3)=Y at *
        have b3:=Vs t (Y.a:Int) [41] (by omega)
        have b4:=Vt t (Y.a:Int) [41] (by omega) b2
        rcases a6j X.ok with x1|x1
        .rcases a6j Y.ok with y1|y1
         .simp only[x1,y1,Vf t X Y x1 y1,a7q,a7E,a8A,a6E,a6z,a6g,a5Z,a6l,a6h,a6p,a6q,a6v,a6A,a5R,a6J,a5X,ag,bE]
          repeat' (first|intro _|apply And.intro)
          all_goals first|exact True.intro|omega|with_reducible rfl|decide
         .simp only[x1,y1,LP t X Y (.inr y1),a7q,a7E,a8f,a8e,a6E,a6z,a6g,a5Z,a6l,a6h,a6p,a6q,a6v,a6A,a5R,a6J,a5X,ag,bE]
          repeat' (first|intro _|apply And.intro)
          all_goals first|exact True.intro|omega|with_reducible rfl|decide
        .simp only[x1,LP t X Y (.inl x1),a7q,a7E,a8f,a8e,a6E,a6z,a6g,a5Z,a6l,a6h,a6p,a6q,a6v,a6A,a5R,a6J,a5X,ag,bE]
         repeat' (first|intro _|apply And.intro)
         all_goals first|exact True.intro|omega|with_reducible rfl|decide
       .have g3:=zZ t (X.a:Int) [32,43,32] (by rw[a5X];exact eS)
        rcases a6j (cC t X.a [32]) with eD|eD
        .skip
         have k2:=lZ t _ 32 [] eD
         simp only[a5O,a6a] at k2
         have g2:=uB t (X.a:Int) 32 (by rw[a5X];exact eD)
         obtain⟨q1,q2,q3⟩:=p2 eS eD
         have b2:=UG t (d - 1) ((X.a:Int)+1) (by omega) (by omega)
         simp only[eD,eS,g3,g2,q1,q2,q3,a6E,a6z,a6g,a5Z,a6l,a6h,a6p,a6q,a6v,a6A,a5R,a6J,a5X,ag,bE]
         generalize xE t (d - 1) ((X.a:Int)+1)=Y at *
         have b3:=Vs t (Y.a:Int) [41] (by omega)
         have b4:=Vt t (Y.a:Int) [41] (by omega) b2
         rcases a6j X.ok with x1|x1
         .rcases a6j Y.ok with y1|y1
          .simp only[x1,y1,Vf t X Y x1 y1,a7q,a7E,a8A,a6E,a6z,a6g,a5Z,a6l,a6h,a6p,a6q,a6v,a6A,a5R,a6J,a5X,ag,bE]
           repeat' (first|intro _|apply And.intro)
           all_goals first|exact True.intro|omega|with_reducible rfl|decide
          .simp only[x1,y1,LP t X Y (.inr y1),a7q,a7E,a8f,a8e,a6E,a6z,a6g,a5Z,a6l,a6h,a6p,a6q,a6v,a6A,a5R,a6J,a5X,ag,bE]
           repeat' (first|intro _|apply And.intro)
           all_goals first|exact True.intro|omega|with_reducible rfl|decide
         .simp only[x1,LP t X Y (.inl x1),a7q,a7E,a8f,a8e,a6E,a6z,a6g,a5Z,a6l,a6h,a6p,a6q,a6v,a6A,a5R,a6J,a5X,ag,bE]
          repeat' (first|intro _|apply And.intro)
          all_goals first|exact True.intro|omega|with_reducible rfl|decide
        .have g4:=zZ t (X.a:Int) [32] (by rw[a5X];exact eD)
         obtain⟨q1,q2,q3⟩:=p3 eS eD
         simp only[eS,eD,g3,g4,q1,q2,q3,a6E,a6z,a6g,a5Z,a6l,a6h,a6p,a6q,a6v,a6A,a5R,a6J,a5X,ag,bE]
         repeat' (first|intro _|apply And.intro)
         all_goals first|exact True.intro|omega|with_reducible rfl|decide
      .have f40:=zZ t a [40] RJ
       obtain⟨q1,q2,q3⟩:=a3w t d a hd h0 DD GU Am On RJ
       simp only[Hp,DD,f48,GU,f49,Am,f116,On,f97,RJ,f40,q1,q2,q3,a6E,a6z,a6g,a5Z,a6l,a6h,a6p,a6q,a6v,a6A,a5R,a6J,a5X,ag,bE]
       repeat' (first|intro _|apply And.intro)
       all_goals first|exact True.intro|omega|with_reducible rfl|decide
def th(d:Int)(t:List UInt8)(a:Int):Nat->aX:=(λ zb=>if Nat.beq zb 0 then .mk (Nat) (λ k=>k<=nE t a) (λ k=>nE t a - k) [] [2,3] (λ k=>[(6, .aS ⟨(.int .i64),((k:Int):Int)⟩)]) [0,1,4,5,6,7,8,9,10,11,12,13,14,15,16,17,18,19,20,21,22,23,24,25,26,27,28,29,30,31,32,33,34,35,36,37,38,39,40,41] (λ k=>[(400000, .box [.aS ⟨.str,(t:List UInt8)⟩, .aS ⟨(.int .i64),(a+(k:Int):Int)⟩])]) [] [] (λ k=>λ _ => .none) else if Nat.beq zb 2 then .mk (Nat) (λ j=>j<=nE t a/\nE t a<=40) (λ j=>nE t a - j) [] [1,2,3,10,11,12,13,14,15,16,17,18,19,20,21,22] (λ j=>[(6, .aS ⟨(.int .i64),((nE t a:Int) - (j:Int):Int)⟩)]) [0,4,5,6,8,9,23,24,25,26,27,28,29,30,31,32,33,34,35,36,37,38,39,40,41,400000] (λ j=>[(7, .box [.aS ⟨(.int .i64),((bI 5 j (rE t d a).e).ah:Int)⟩, .aS ⟨(.int .i64),((bI 5 j (rE t d a).e).bc:Int)⟩, .aB 7100]),(7100, .aB (.st .expr) ((bI 5 j (rE t d a).e).V:List O))]) [] [] (λ j=>λ _ => .none) else if Nat.beq zb 4 then .mk (Nat) (λ m=>m<=mE t d a/\m<=41/\nE t a<=40) (λ m=>mE t d a - m) [] [1,2,3,6,10,11,12,13,14,15,16,17,18,19,20,21,22,23,24,25,26,27,28,29] (λ m=>[(9, .aS ⟨(.int .i64),((m:Int):Int)⟩)]) [0,4,5,8,9,30,31,32,33,34,35,36,37,38,39,40,41] (λ m=>[(400000, .box [.aS ⟨.str,(t:List UInt8)⟩, .aS ⟨(.int .i64),(((rE t d a).a:Int)+(m:Int):Int)⟩]),(7, .box [.aS ⟨(.int .i64),((bI 8 m (bI 5 (nE t a) (rE t d a).e)).ah:Int)⟩, .aS ⟨(.int .i64),((bI 8 m (bI 5 (nE t a) (rE t d a).e)).bc:Int)⟩, .aB 7200]),(7200, .aB (.st .expr) ((bI 8 m (bI 5 (nE t a) (rE t d a).e)).V:List O))]) [] [] (λ m=>λ _ => .none) else .none)
theorem Bo(n:Nat)(d:Int)(t:List UInt8)(a:Int):cU (dj [] [gX] [] [20,28,29,38,39] [] [] [] [dx,fE n]) (aF eQ) (th d t a) 0 (gS (dj [] [gX] [] [20,28,29,38,39] [] [] [] [dx,fE n]) eQ [[.d .str, .d (.int .i64)]] λ r ds=>bH r [⟨(.st .expr),(xE t d a).e⟩,⟨.bool,(xE t d a).ok⟩]/\jv ds [[⟨.str,t⟩,⟨(.int .i64),((xE t d a).a:Int)⟩]]) (cB eQ [.box 0, .val ⟨(.int .i64),d⟩] [[.d .str, .d (.int .i64)]] [[⟨.str,t⟩,⟨(.int .i64),a⟩]]) =
 (((∃ k1:Nat,(k1<=nE t a/\((True/\(d=d/\(True/\(false=false/\((0:Int)=(k1:Int)/\True)))))/\((t=t/\(a=(a+(k1:Int))/\True))/\(((0:Int)=(0:Int)/\((0:Int)=(0:Int)/\(True/\True)))/\True)))))/\(∀ k1:Nat,(k1<=nE t a ->
 ((0<=(a+(k1:Int))/\(a+(k1:Int))<=(t.length:Int)/\t.length<=10000/\([126]).length<=10/\1<=([126]).length)/\(((cC t (a+(k1:Int)).toNat ([126]))=true ->
 (ag ((k1:Int)+(1:Int))/\(∃ k2:Nat,(k2<=nE t a/\(nE t a - k2<nE t a - k1/\((True/\(d=d/\(True/\(false=false/\(((k1:Int)+(1:Int))=(k2:Int)/\True)))))/\((t=t/\((au t (a+(k1:Int)) ([126]))=(a+(k2:Int))/\True))/\(((0:Int)=(0:Int)/\((0:Int)=(0:Int)/\(True/\True)))/\True))))))))/\((cC t (a+(k1:Int)).toNat ([126]))=false ->
 (((decide ((40:Int)<(k1:Int)))=true ->
 ((zE=((xE t d a).e)/\false=((xE t d a).ok))/\((t=t/\(au t (a+(k1:Int)) ([126]))=((xE t d a).a:Int))/\True)))/\((decide ((40:Int)<(k1:Int)))=false ->
 ((2 * (d+1).toNat<n/\0<=(au t (a+(k1:Int)) ([126]))/\(au t (a+(k1:Int)) ([126]))<=(t.length:Int)/\t.length<=10000 /\ -1<=d/\d<=40)/\((∃ j2:Nat,((j2<=nE t a/\nE t a<=40)/\((True/\(True/\(false=false/\((k1:Int)=((nE t a:Int) - (j2:Int))/\(True/\(((cZ t d (au t (a+(k1:Int)) ([126]))).ok)=((cZ t d (au t (a+(k1:Int)) ([126]))).ok)/\True))))))/\((((cZ t d (au t (a+(k1:Int)) ([126]))).e).ah=((bI 5 j2 (rE t d a).e).ah)/\(((cZ t d (au t (a+(k1:Int)) ([126]))).e).bc=((bI 5 j2 (rE t d a).e).bc)/\(True/\True)))/\(((cZ t d (au t (a+(k1:Int)) ([126]))).e).V=((bI 5 j2 (rE t d a).e).V)/\((t=t/\((((cZ t d (au t (a+(k1:Int)) ([126]))).a:Int))=(((cZ t d (au t (a+(k1:Int)) ([126]))).a:Int))/\True))/\(((0:Int)=(0:Int)/\((0:Int)=(0:Int)/\(True/\True)))/\True)))))))/\(∀ j2:Nat,((j2<=nE t a/\nE t a<=40) ->
 (((decide ((0:Int)<((nE t a:Int) - (j2:Int))))=true ->
 (ag (((nE t a:Int) - (j2:Int)) - (1:Int))/\(∃ j3:Nat,((j3<=nE t a/\nE t a<=40)/\(nE t a - j3<nE t a - j2/\((True/\(True/\(false=false/\((((nE t a:Int) - (j2:Int)) - (1:Int))=((nE t a:Int) - (j3:Int))/\(True/\(((cZ t d (au t (a+(k1:Int)) ([126]))).ok)=((cZ t d (au t (a+(k1:Int)) ([126]))).ok)/\True))))))/\(((O.mk (5:Int) 0 ([(O.mk ((bI 5 j2 (rE t d a).e).ah) ((bI 5 j2 (rE t d a).e).bc) ((bI 5 j2 (rE t d a).e).V))])).ah=((bI 5 j3 (rE t d a).e).ah)/\((O.mk (5:Int) 0 ([(O.mk ((bI 5 j2 (rE t d a).e).ah) ((bI 5 j2 (rE t d a).e).bc) ((bI 5 j2 (rE t d a).e).V))])).bc=((bI 5 j3 (rE t d a).e).bc)/\(True/\True)))/\((O.mk (5:Int) 0 ([(O.mk ((bI 5 j2 (rE t d a).e).ah) ((bI 5 j2 (rE t d a).e).bc) ((bI 5 j2 (rE t d a).e).V))])).V=((bI 5 j3 (rE t d a).e).V)/\((t=t/\((((cZ t d (au t (a+(k1:Int)) ([126]))).a:Int))=(((cZ t d (au t (a+(k1:Int)) ([126]))).a:Int))/\True))/\(((0:Int)=(0:Int)/\((0:Int)=(0:Int)/\(True/\True)))/\True))))))))))/\((decide ((0:Int)<((nE t a:Int) - (j2:Int))))=false ->
 ((∃ m3:Nat,((m3<=mE t d a/\m3<=41/\nE t a<=40)/\((True/\(True/\(True/\(((cZ t d (au t (a+(k1:Int)) ([126]))).ok)=((cZ t d (au t (a+(k1:Int)) ([126]))).ok)/\((0:Int)=(m3:Int)/\True)))))/\((t=t/\((((cZ t d (au t (a+(k1:Int)) ([126]))).a:Int))=(((rE t d a).a:Int)+(m3:Int))/\True))/\((((bI 5 j2 (rE t d a).e).ah)=((bI 8 m3 (bI 5 (nE t a) (rE t d a).e)).ah)/\(((bI 5 j2 (rE t d a).e).bc)=((bI 8 m3 (bI 5 (nE t a) (rE t d a).e)).bc)/\(True/\True)))/\(((bI 5 j2 (rE t d a).e).V)=((bI 8 m3 (bI 5 (nE t a) (rE t d a).e)).V)/\(((0:Int)=(0:Int)/\((0:Int)=(0:Int)/\(True/\True)))/\True)))))))/\(∀ m3:Nat,((m3<=mE t d a/\m3<=41/\nE t a<=40) ->
 ((0<=(((rE t d a).a:Int)+(m3:Int))/\(((rE t d a).a:Int)+(m3:Int))<=(t.length:Int)/\t.length<=10000/\([42]).length<=10/\1<=([42]).length)/\(((cC t (((rE t d a).a:Int)+(m3:Int)).toNat ([42]))=true ->
 (((decide ((40:Int)<(m3:Int)))=true ->
 ((zE=((xE t d a).e)/\false=((xE t d a).ok))/\((t=t/\(au t (((rE t d a).a:Int)+(m3:Int)) ([42]))=((xE t d a).a:Int))/\True)))/\((decide ((40:Int)<(m3:Int)))=false ->
 (ag ((m3:Int)+(1:Int))/\(∃ m4:Nat,((m4<=mE t d a/\m4<=41/\nE t a<=40)/\(mE t d a - m4<mE t d a - m3/\((True/\(True/\(True/\(((cZ t d (au t (a+(k1:Int)) ([126]))).ok)=((cZ t d (au t (a+(k1:Int)) ([126]))).ok)/\(((m3:Int)+(1:Int))=(m4:Int)/\True)))))/\((t=t/\((au t (((rE t d a).a:Int)+(m3:Int)) ([42]))=(((rE t d a).a:Int)+(m4:Int))/\True))/\(((O.mk (8:Int) 0 ([(O.mk ((bI 8 m3 (bI 5 (nE t a) (rE t d a).e)).ah) ((bI 8 m3 (bI 5 (nE t a) (rE t d a).e)).bc) ((bI 8 m3 (bI 5 (nE t a) (rE t d a).e)).V))])).ah=((bI 8 m4 (bI 5 (nE t a) (rE t d a).e)).ah)/\((O.mk (8:Int) 0 ([(O.mk ((bI 8 m3 (bI 5 (nE t a) (rE t d a).e)).ah) ((bI 8 m3 (bI 5 (nE t a) (rE t d a).e)).bc) ((bI 8 m3 (bI 5 (nE t a) (rE t d a).e)).V))])).bc=((bI 8 m4 (bI 5 (nE t a) (rE t d a).e)).bc)/\(True/\True)))/\((O.mk (8:Int) 0 ([(O.mk ((bI 8 m3 (bI 5 (nE t a) (rE t d a).e)).ah) ((bI 8 m3 (bI 5 (nE t a) (rE t d a).e)).bc) ((bI 8 m3 (bI 5 (nE t a) (rE t d a).e)).V))])).V=((bI 8 m4 (bI 5 (nE t a) (rE t d a).e)).V)/\(((0:Int)=(0:Int)/\((0:Int)=(0:Int)/\(True/\True)))/\True))))))))))))/\((cC t (((rE t d a).a:Int)+(m3:Int)).toNat ([42]))=false ->
 (((O.mk ((bI 8 m3 (bI 5 (nE t a) (rE t d a).e)).ah) ((bI 8 m3 (bI 5 (nE t a) (rE t d a).e)).bc) ((bI 8 m3 (bI 5 (nE t a) (rE t d a).e)).V))=((xE t d a).e)/\((cZ t d (au t (a+(k1:Int)) ([126]))).ok)=((xE t d a).ok))/\((t=t/\(au t (((rE t d a).a:Int)+(m3:Int)) ([42]))=((xE t d a).a:Int))/\True))))))))))))))))))))))):=by kernel_rfl
theorem Bd(n:Nat)(hE:aQ [])(hO:iE [gX])(hM:iS [])(hS:gU [dx,fE n]):fY.Good (fF (n+1)):=by
 refine⟨aG jy rfl (by decide),?_⟩
 show ∀ (d:Int) (t:List UInt8) (a:Int),(2 * (d+1).toNat+1<n+1/\0<=a/\a<=(t.length:Int)/\t.length<=10000 /\ -1<=d/\d<=40)->p7 prog ki [[.d .str, .d (.int .i64)]] [.box 0, .val ⟨(.int .i64),d⟩] [[⟨.str,t⟩,⟨(.int .i64),a⟩]] [⟨(.st .expr),(xE t d a).e⟩,⟨.bool,(xE t d a).ok⟩] [[⟨.str,t⟩,⟨(.int .i64),((xE t d a).a:Int)⟩]]
 intro d t a hp
 refine eN (own:=[20,28,29,38,39]) (wr:=[]) (cl:=[]) (ro:=[]) hE hO hM hS jy zc (th d t a) rfl rfl ?_
 rewrite [Bo n d t a]
 obtain⟨hm,h0,h1,h2,h3,h4⟩:=hp
 have n1:=X4 t a h0 h1
 have n2:=a2z t d a h0 h1
 have z1:=λ k h=>a2N t a k h0 h
 have z2:=λ k h=>a2M t d a k h
 have c1:cZ t d (a+(nE t a:Int))=rE t d a:=Yk t d a h0
 simp only[a6E,a6z,a6g,a5Z,a6l,a6h,a6p,a6q,a6v,a6A,a5R,a6J,a5X,ag,bE]
 refine⟨⟨0,a6N _,by omega⟩,λ k1 hk=>⟨?_,λ e1=>?_,λ e1=>?_⟩⟩
 .repeat' (first|intro _|apply And.intro)
  all_goals first|exact True.intro|omega|with_reducible rfl|decide
 .have g:=z1 k1 hk
  rw[e1] at g
  have g':=a6f g.symm
  rw[uB t _ 126 e1]
  exact⟨by omega,k1+1,by omega,by omega,by omega,by omega⟩
 .have g:=z1 k1 hk
  rw[e1] at g
  have g':=a7z g.symm
  have ux:k1=nE t a:=by omega
  subst ux
  have f1:=zZ t _ [126] e1
  by_cases hn:40<nE t a
  .obtain⟨x1,x2,x3⟩:=YW t d a h0 hn
   simp only[f1,(a6L (by omega):decide ((40:Int)<(nE t a:Int))=true),x1,x2,x3,a6E,a6z,a6g,a5Z,a6l,a6h,a6p,a6q,a6v,a6A,a5R,a6J,a5X,ag,bE]
   repeat' (first|intro _|apply And.intro)
   all_goals first|exact True.intro|omega|with_reducible rfl|decide
  .simp only[f1,c1,(a7n (by omega):decide ((40:Int)<(nE t a:Int))=false),a6E,a6z,a6g,a5Z,a6l,a6h,a6p,a6q,a6v,a6A,a5R,a6J,a5X,ag,bE]
   refine⟨by omega,⟨0,⟨a6N _,by omega⟩,by omega,⟨rfl,rfl⟩,rfl⟩,λ j2 hj=>⟨λ e2=>?_,λ e2=>?_⟩⟩
   .have e2':=a6f e2
    exact⟨by omega,j2+1,⟨by omega,by omega⟩,by omega,by omega,⟨by rw[hU],by rw[hU]⟩,by rw[hU,O.eta]⟩
   .have e2':=a7z e2
    have hj2:j2=nE t a:=by omega
    subst hj2
    refine⟨⟨0,⟨a6N _,by omega,by omega⟩,rfl,by omega,⟨rfl,rfl⟩,rfl⟩,λ m3 VU=>⟨⟨by omega,by omega,by omega,by decide,by decide⟩,λ e3=>⟨λ e4=>?_,λ e4=>?_⟩,λ e3=>?_⟩⟩
    .have g3:=z2 m3 VU.1
     rw[e3] at g3
     have g3':=a6f g3.symm
     have e4':=a6f e4
     obtain⟨x1,x2,x3⟩:=Ww t d a hn (by omega)
     rw[uB t _ 42 e3,x1,x2,x3]
     exact⟨⟨rfl,rfl⟩,by omega⟩
    .have g3:=z2 m3 VU.1
     rw[e3] at g3
     have g3':=a6f g3.symm
     have e4':=a7z e4
     rw[uB t _ 42 e3]
     exact⟨by omega,m3+1,⟨by omega,by omega,by omega⟩,by omega,by omega,by omega,⟨by rw[hU],by rw[hU]⟩,by rw[hU,O.eta]⟩
    .have g3:=z2 m3 VU.1
     rw[e3] at g3
     have g3':=a7z g3.symm
     have hm:m3=mE t d a:=by omega
     subst hm
     obtain⟨x1,x2,x3⟩:=YV t d a hn (by omega)
     rw[zZ t _ _ e3,x1,x2,x3,O.eta]
     exact⟨⟨rfl,rfl⟩,rfl⟩
theorem OQ:∀ n,gU [fE n,fF n]
 | 0=>⟨⟨aG nh rfl (by decide),λ _ _ _ h=>absurd h.1 (a6D _)⟩,⟨aG jy rfl (by decide),λ _ _ _ h=>absurd h.1 (a6D _)⟩,trivial⟩
 | n+1=>by
  have ih:=OQ n
  exact⟨Bc n trivial ⟨Jo,yM,trivial⟩ trivial ⟨qs,xy,ih.2.1,trivial⟩,Bd n trivial ⟨yM,trivial⟩ trivial ⟨qs,ih.1,trivial⟩,trivial⟩
theorem yQ:fY.Good jN :=
 ⟨aG jy rfl (by decide),λ d t a hp=>(OQ (2 * (d+1).toNat+1+1)).2.1.2 d t a (⟨a6c _,hp⟩)⟩
end
end Go.Proofs.YtnehkikdlnmebaaGreatDoor

set_option maxRecDepth 4000
set_option maxHeartbeats 4000000
namespace Go.Proofs.YtnehkikdlnmebaaGreatDoor
noncomputable section
theorem vl(gg:aD)(x:O)(hg:aY gg=true)(h:DV gg x=true):aL x=true/\bB x<=40/\(bA x).length<=1000:=by
 rw[Ng] at h
 rw[nM] at hg
 rw[sy _ (by omega),sy _ (by omega)] at h
 have ht:=xh _ _ 9 9 (by omega) (by omega) x h.1
 have:=tD (cv x+1) x (a6c _) ht
 exact⟨ht,h.2.2,by have:=h.2.1;omega⟩
def N7(t:List UInt8):RI:=kr (dB t 41) t 0
def fI(gg:aD)(t:List UInt8):Bool:=(N7 t).ok&&decide ((N7 t).a=t.length)&&DV gg (N7 t).e&&decide (bA (N7 t).e=t)
def lW(gg:aD)(t:List UInt8):O:=bif fI gg t then (N7 t).e else zX
def JL(gg:aD)(t:List UInt8):O:=bif aY gg&&decide (t.length<=4000) then lW gg t else zX
def yO(gg:aD)(t:List UInt8):Int:=bif aY gg then (bif decide (t.length<=4000) then (bif fI gg t then 0 else 5) else 2) else 1
def jM:bb:=⟨sd,[.v (.st .sig), .v .str],λ (gg:aD) (t:List UInt8)=>⟨(some (aY gg=true/\t.length<=8000),[⟨(.st .expr),lW gg t⟩,⟨.bool,fI gg t⟩])⟩⟩
def wU(gg:aD)(t:List UInt8):Nat->aX:=λ _ => .none
theorem Gg(gg:aD)(t:List UInt8):cU (dj [gf,iH] [] [] [12] [] [] [2] [jN]) (aF ik) (wU gg t) 0 (mn (dj [gf,iH] [] [] [12] [] [] [2] [jN]) ik λ r=>bH r [⟨(.st .expr),lW gg t⟩,⟨.bool,fI gg t⟩]) (rz ik [.val ⟨(.st .sig),gg⟩, .val ⟨.str,t⟩]) =
 (((0<=(0:Int)/\(0:Int)<=(t.length:Int)/\t.length<=10000 /\ -1<=(40:Int)/\(40:Int)<=40)/\(((!((xE t (40:Int) (0:Int)).ok))=false ->
 (ag (((xE t (40:Int) (0:Int)).a:Int)) ->
 (ag ((t.length:Int)) ->
 (((!(decide ((((xE t (40:Int) (0:Int)).a:Int))=((t.length:Int)))))=false ->
 (((!(DV gg (aC ((xE t (40:Int) (0:Int)).e))))=false ->
 ((aL (aC ((xE t (40:Int) (0:Int)).e))=true/\(bA (aC ((xE t (40:Int) (0:Int)).e))).length<=1000000)/\((bA (aC ((xE t (40:Int) (0:Int)).e))).length<=140737488355328 ->
 (((!decide ((bA (aC ((xE t (40:Int) (0:Int)).e)))=t))=true ->
 (zE=(lW gg t)/\false=(fI gg t)))/\((!decide ((bA (aC ((xE t (40:Int) (0:Int)).e)))=t))=false ->
 ((aC ((xE t (40:Int) (0:Int)).e))=(lW gg t)/\true=(fI gg t)))))))/\((!(DV gg (aC ((xE t (40:Int) (0:Int)).e))))=(!false) ->
 ((true=true ->
 (zE=(lW gg t)/\false=(fI gg t)))/\(true=false ->
 ((aC ((xE t (40:Int) (0:Int)).e))=(lW gg t)/\true=(fI gg t)))))))/\((!(decide ((((xE t (40:Int) (0:Int)).a:Int))=((t.length:Int)))))=(!false) ->
 ((true=false ->
 ((aL (aC ((xE t (40:Int) (0:Int)).e))=true/\(bA (aC ((xE t (40:Int) (0:Int)).e))).length<=1000000)/\((bA (aC ((xE t (40:Int) (0:Int)).e))).length<=140737488355328 ->
 (((!decide ((bA (aC ((xE t (40:Int) (0:Int)).e)))=t))=true ->
 (zE=(lW gg t)/\false=(fI gg t)))/\((!decide ((bA (aC ((xE t (40:Int) (0:Int)).e)))=t))=false ->
 ((aC ((xE t (40:Int) (0:Int)).e))=(lW gg t)/\true=(fI gg t)))))))/\(true=(!false) ->
 ((true=true ->
 (zE=(lW gg t)/\false=(fI gg t)))/\(true=false ->
 ((aC ((xE t (40:Int) (0:Int)).e))=(lW gg t)/\true=(fI gg t)))))))))))/\((!((xE t (40:Int) (0:Int)).ok))=(!false) ->
 ((true=false ->
 (((!(DV gg (aC ((xE t (40:Int) (0:Int)).e))))=false ->
 ((aL (aC ((xE t (40:Int) (0:Int)).e))=true/\(bA (aC ((xE t (40:Int) (0:Int)).e))).length<=1000000)/\((bA (aC ((xE t (40:Int) (0:Int)).e))).length<=140737488355328 ->
 (((!decide ((bA (aC ((xE t (40:Int) (0:Int)).e)))=t))=true ->
 (zE=(lW gg t)/\false=(fI gg t)))/\((!decide ((bA (aC ((xE t (40:Int) (0:Int)).e)))=t))=false ->
 ((aC ((xE t (40:Int) (0:Int)).e))=(lW gg t)/\true=(fI gg t)))))))/\((!(DV gg (aC ((xE t (40:Int) (0:Int)).e))))=(!false) ->
 ((true=true ->
 (zE=(lW gg t)/\false=(fI gg t)))/\(true=false ->
 ((aC ((xE t (40:Int) (0:Int)).e))=(lW gg t)/\true=(fI gg t)))))))/\(true=(!false) ->
 ((true=false ->
 ((aL (aC ((xE t (40:Int) (0:Int)).e))=true/\(bA (aC ((xE t (40:Int) (0:Int)).e))).length<=1000000)/\((bA (aC ((xE t (40:Int) (0:Int)).e))).length<=140737488355328 ->
 (((!decide ((bA (aC ((xE t (40:Int) (0:Int)).e)))=t))=true ->
 (zE=(lW gg t)/\false=(fI gg t)))/\((!decide ((bA (aC ((xE t (40:Int) (0:Int)).e)))=t))=false ->
 ((aC ((xE t (40:Int) (0:Int)).e))=(lW gg t)/\true=(fI gg t)))))))/\(true=(!false) ->
 ((true=true ->
 (zE=(lW gg t)/\false=(fI gg t)))/\(true=false ->
 ((aC ((xE t (40:Int) (0:Int)).e))=(lW gg t)/\true=(fI gg t)))))))))))):=by kernel_rfl
theorem FX(hE:aQ [gf,iH])(hO:iE [])(hM:iS [])(hS:gU [jN]):bb.lM jM:=by
 refine⟨aG wa rfl (by decide),?_⟩
 show ∀ (gg:aD) (t:List UInt8),(aY gg=true/\t.length<=8000)->ng prog sd [.val ⟨(.st .sig),gg⟩, .val ⟨.str,t⟩] [⟨(.st .expr),lW gg t⟩,⟨.bool,fI gg t⟩]
 intro gg t hp
 refine lK (own:=[12]) (wr:=[]) (cl:=[]) (ro:=[2]) hE hO hM hS wa Ds (wU gg t) ?_
 rewrite [Gg gg t]
 obtain⟨hg,hl⟩:=hp
 have r1:fI gg t=((xE t 40 0).ok&&decide ((xE t 40 0).a=t.length)&&DV gg (xE t 40 0).e&&decide (bA (xE t 40 0).e=t)):=rfl
 have r2:lW gg t=bif fI gg t then (xE t 40 0).e else zX:=rfl
 have r3:=vl gg (xE t 40 0).e hg
 rcases a6j (xE t 40 0).ok with h1|h1
 .by_cases h2:(xE t 40 0).a=t.length
  .have d2:decide (((xE t 40 0).a:Int)=(t.length:Int))=true:=a6L (by omega)
   rcases a6j (DV gg (xE t 40 0).e) with h3|h3
   .obtain⟨g1,g2,g3⟩:=r3 h3
    by_cases h4:bA (xE t 40 0).e=t
    .have k1:fI gg t=true:=by rw[r1,h1,a6L h2,h3,a6L h4];rfl
     have k2:lW gg t=(xE t 40 0).e:=by rw[r2,k1];rfl
     simp only[h1,d2,h3,a6L h4,g1,k1,k2,a6E,a6z,a6g,a5Z,a6l,a6h,a6p,a6q,a6v,a6A,a5R,a6J,a5X,ag,bE]
     repeat' (first|intro _|apply And.intro)
     all_goals first|exact True.intro|omega|with_reducible rfl
    .have k1:fI gg t=false:=by rw[r1,a7n h4];simp
     have k2:lW gg t=zX:=by rw[r2,k1];rfl
     simp only[h1,d2,h3,a7n h4,g1,k1,k2,a6E,a6z,a6g,a5Z,a6l,a6h,a6p,a6q,a6v,a6A,a5R,a6J,a5X,ag,bE]
     repeat' (first|intro _|apply And.intro)
     all_goals first|exact True.intro|omega|with_reducible rfl
   .have k1:fI gg t=false:=by rw[r1,h3];simp
    have k2:lW gg t=zX:=by rw[r2,k1];rfl
    simp only[h1,d2,h3,k1,k2,a6E,a6z,a6g,a5Z,a6l,a6h,a6p,a6q,a6v,a6A,a5R,a6J,a5X,ag,bE]
    repeat' (first|intro _|apply And.intro)
    all_goals first|exact True.intro|omega|with_reducible rfl
  .have d2:decide (((xE t 40 0).a:Int)=(t.length:Int))=false:=a7n (by omega)
   have k1:fI gg t=false:=by rw[r1,a7n h2];simp
   have k2:lW gg t=zX:=by rw[r2,k1];rfl
   simp only[h1,d2,k1,k2,a6E,a6z,a6g,a5Z,a6l,a6h,a6p,a6q,a6v,a6A,a5R,a6J,a5X,ag,bE]
   repeat' (first|intro _|apply And.intro)
   all_goals first|exact True.intro|omega|with_reducible rfl
 .have k1:fI gg t=false:=by rw[r1,h1];rfl
  have k2:lW gg t=zX:=by rw[r2,k1];rfl
  simp only[h1,k1,k2,a6E,a6z,a6g,a5Z,a6l,a6h,a6p,a6q,a6v,a6A,a5R,a6J,a5X,ag,bE]
  repeat' (first|intro _|apply And.intro)
  all_goals first|exact True.intro|omega|with_reducible rfl
theorem Cx:bb.lM jM:=FX ⟨wq,wv,trivial⟩ trivial trivial ⟨yQ,trivial⟩
def gA:bb:=⟨r4,[.v (.st .sig), .v .str],λ (gg:aD) (t:List UInt8)=>⟨(none,[⟨(.st .expr),JL gg t⟩,⟨(.int .i64),yO gg t⟩])⟩⟩
def wS(gg:aD)(t:List UInt8):Nat->aX:=λ _ => .none
theorem Ge(gg:aD)(t:List UInt8):cU (dj [cG] [jM] [] [19] [] [] [2]) (aF ic) (wS gg t) 0 (mn (dj [cG] [jM] [] [19] [] [] [2]) ic λ r=>bH r [⟨(.st .expr),JL gg t⟩,⟨(.int .i64),yO gg t⟩]) (rz ic [.val ⟨(.st .sig),gg⟩, .val ⟨.str,t⟩]) =
 ((((!(aY gg))=true ->
 (zE=(JL gg t)/\(1:Int)=(yO gg t)))/\((!(aY gg))=false ->
 (ag ((t.length:Int)) ->
 (((decide ((4000:Int)<((t.length:Int))))=true ->
 (zE=(JL gg t)/\(2:Int)=(yO gg t)))/\((decide ((4000:Int)<((t.length:Int))))=false ->
 ((aY gg=true/\t.length<=8000)/\(((!(fI gg t))=true ->
 (zE=(JL gg t)/\(5:Int)=(yO gg t)))/\((!(fI gg t))=false ->
 ((aC (lW gg t))=(JL gg t)/\(0:Int)=(yO gg t))))))))))):=by kernel_rfl
theorem FU(hE:aQ [cG])(hO:iE [jM])(hM:iS [])(hS:gU []):bb.lM gA:=by
 refine⟨aG vY rfl (by decide),?_⟩
 show ∀ (gg:aD) (t:List UInt8),True->ng prog r4 [.val ⟨(.st .sig),gg⟩, .val ⟨.str,t⟩] [⟨(.st .expr),JL gg t⟩,⟨(.int .i64),yO gg t⟩]
 intro gg t _
 refine lK (own:=[19]) (wr:=[]) (cl:=[]) (ro:=[2]) hE hO hM hS vY Dn (wS gg t) ?_
 rewrite [Ge gg t]
 have r1:JL gg t=bif aY gg&&decide (t.length<=4000) then lW gg t else zX:=rfl
 have r2:yO gg t=bif aY gg then (bif decide (t.length<=4000) then (bif fI gg t then 0 else 5) else 2) else 1:=rfl
 have r3:fI gg t=false->lW gg t=zX:=λ h=>by unfold lW;rw[h];rfl
 rcases a6j (aY gg) with hg|hg
 .by_cases hl:t.length<=4000
  .have d1:decide ((4000:Int)<((t.length:Int)))=false:=a7n (by omega)
   rcases a6j (fI gg t) with h|h
   .simp only[r1,r2,hg,d1,a6L hl,h,a8A,a8k,a6E,a6z,a6g,a5Z,a6l,a6h,a6p,a6q,a6v,a6A,a5R,a6J,a5X,ag,bE]
    repeat' (first|intro _|apply And.intro)
    all_goals first|exact True.intro|omega|with_reducible rfl
   .simp only[r1,r2,hg,d1,a6L hl,h,r3 h,a8A,a8k,a8R,a6E,a6z,a6g,a5Z,a6l,a6h,a6p,a6q,a6v,a6A,a5R,a6J,a5X,ag,bE]
    repeat' (first|intro _|apply And.intro)
    all_goals first|exact True.intro|omega|with_reducible rfl
  .have d1:decide ((4000:Int)<((t.length:Int)))=true:=a6L (by omega)
   simp only[r1,r2,hg,d1,a7n hl,a8f,a8k,a8R,a6E,a6z,a6g,a5Z,a6l,a6h,a6p,a6q,a6v,a6A,a5R,a6J,a5X,ag,bE]
   repeat' (first|intro _|apply And.intro)
   all_goals first|exact True.intro|omega|with_reducible rfl
 .simp only[r1,r2,hg,a8e,a8R,a6E,a6z,a6g,a5Z,a6l,a6h,a6p,a6q,a6v,a6A,a5R,a6J,a5X,ag,bE]
  repeat' (first|intro _|apply And.intro)
  all_goals first|exact True.intro|omega|with_reducible rfl
theorem Cv:bb.lM gA:=FU ⟨kd,trivial⟩ ⟨Cx,trivial⟩ trivial trivial
theorem Dd(gg:aD)(x:O)(h:jS gg x=true):aL x=true/\(bA x).length<=1000000:=by
 simp only[jS,a5I] at h
 obtain⟨h1,_,h3⟩:=vl gg x h.1 h.2
 exact⟨h1,by omega⟩
def oU(gg:aD)(x:O):List UInt8:=if jS gg x=true then bA x else []
theorem RN(gg:aD)(x:O)(h:jS gg x=true):bA x=oU gg x:=(a5T h).symm
theorem a0x(gg:aD)(x:O)(h:jS gg x=false):[]=oU gg x:=(a5J (by rw[h];decide)).symm
def kU:bb:=⟨rZ,[.v (.st .sig), .v (.st .expr)],λ (gg:aD) (x:O)=>⟨(none,[⟨.str,oU gg x⟩])⟩⟩
def yx(gg:aD)(x:O):Nat->aX:=λ _ => .none
theorem Is(gg:aD)(x:O):cU (bo [jI,iH] [] [] [2,3]) (aF ib) (yx gg x) 0 (bC (bo [jI,iH] [] [] [2,3]) ib λ r=>bH r [⟨.str,oU gg x⟩]) (aO ib [.val ⟨(.st .sig),gg⟩, .val ⟨(.st .expr),x⟩]) =
 ((((!(jS gg x))=true ->
 []=(oU gg x))/\((!(jS gg x))=false ->
 ((aL x=true/\(bA x).length<=1000000)/\((bA x).length<=140737488355328 ->
 (bA x)=(oU gg x)))))):=by kernel_rfl
theorem HJ(hE:aQ [jI,iH]):bb.Good kU:=by
 refine⟨aG vX rfl (by decide),?_⟩
 show ∀ (gg:aD) (x:O),True->bD prog rZ [.val ⟨(.st .sig),gg⟩, .val ⟨(.st .expr),x⟩] (·=[⟨.str,oU gg x⟩])
 intro gg x _
 refine bu (wr:=[]) (cl:=[]) (ro:=[2,3]) hE vX Dm (yx gg x) ?_
 rewrite [Is gg x]
 refine⟨λ a0=>?_,λ a0=>⟨?_,λ a1=>?_⟩⟩
 all_goals try and_intros
 all_goals (try simp only[a6g,a5Z,a6k,a7m] at *);first|rfl|trivial|exact (Dd gg x (by with_reducible assumption)).1|exact (Dd gg x (by with_reducible assumption)).2|exact RN gg x (by with_reducible assumption)|exact a0x gg x (by with_reducible assumption)
theorem DF:bb.Good kU:=HJ ⟨BO,wv,trivial⟩
def kX:bb:=⟨sg,[.v (.st .sig), .v (.st .expr)],λ (gg:aD) (x:O)=>⟨(none,[⟨.str,oU gg x⟩])⟩⟩
def yB(gg:aD)(x:O):Nat->aX:=λ _ => .none
theorem Iw(gg:aD)(x:O):cU (bo [gW,pj] [] [] [2,3]) (aF iq) (yB gg x) 0 (bC (bo [gW,pj] [] [] [2,3]) iq λ r=>bH r [⟨.str,oU gg x⟩]) (aO iq [.val ⟨(.st .sig),gg⟩, .val ⟨(.st .expr),x⟩]) =
 ((((!(jS gg x))=true ->
 []=(oU gg x))/\((!(jS gg x))=false ->
 ((aL x=true/\(bA x).length<=1000000)/\((bA x).length<=140737488355328 ->
 (bA x)=(oU gg x)))))):=by kernel_rfl
theorem HN(hE:aQ [gW,pj]):bb.Good kX:=by
 refine⟨aG we rfl (by decide),?_⟩
 show ∀ (gg:aD) (x:O),True->bD prog sg [.val ⟨(.st .sig),gg⟩, .val ⟨(.st .expr),x⟩] (·=[⟨.str,oU gg x⟩])
 intro gg x _
 refine bu (wr:=[]) (cl:=[]) (ro:=[2,3]) hE we Du (yB gg x) ?_
 rewrite [Iw gg x]
 refine⟨λ a0=>?_,λ a0=>⟨?_,λ a1=>?_⟩⟩
 all_goals try and_intros
 all_goals (try simp only[a6g,a5Z,a6k,a7m] at *);first|rfl|trivial|exact (Dd gg x (by with_reducible assumption)).1|exact (Dd gg x (by with_reducible assumption)).2|exact RN gg x (by with_reducible assumption)|exact a0x gg x (by with_reducible assumption)
theorem DK:bb.Good kX:=HN ⟨yd,u7,trivial⟩
def kY:bb:=⟨si,[.v (.st .expr), .v (.st .expr)],λ (x:O) (y:O)=>⟨(none,[⟨.bool,fN x y⟩])⟩⟩
def yC(x:O)(y:O):Nat->aX:=λ _ => .none
theorem Ix(x:O)(y:O):cU (bo [pg] [] [] [2,3]) (aF iu) (yC x y) 0 (bC (bo [pg] [] [] [2,3]) iu λ r=>bH r [⟨.bool,fN x y⟩]) (aO iu [.val ⟨(.st .expr),x⟩, .val ⟨(.st .expr),y⟩]) =
 ((fN x y)=(fN x y)):=by kernel_rfl
theorem HO(hE:aQ [pg]):bb.Good kY:=by
 refine⟨aG wg rfl (by decide),?_⟩
 show ∀ (x:O) (y:O),True->bD prog si [.val ⟨(.st .expr),x⟩, .val ⟨(.st .expr),y⟩] (·=[⟨.bool,fN x y⟩])
 intro x y _
 refine bu (wr:=[]) (cl:=[]) (ro:=[2,3]) hE wg Dv (yC x y) ?_
 rewrite [Ix x y]
 refine rfl
 all_goals try and_intros
 all_goals first|rfl|trivial|omega|(simp only[a5M,a5N,aV,ag,cq,iW,jQ,cE] at *;omega)|(simp[aV,ag] at *;omega)|grind
theorem DL:bb.Good kY:=HO ⟨u6,trivial⟩
end
end Go.Proofs.YtnehkikdlnmebaaGreatDoor

set_option maxRecDepth 4000
set_option maxHeartbeats 4000000
namespace Go.Proofs.YtnehkikdlnmebaaGreatDoor
noncomputable section
def oT(x:bl):Nat->List UInt8
 | 0=>dQ (x.az.getD 0 0)
 | k+1=>oT x k++([32,97]++dQ (x.aA.getD k 0)++[32]++dQ (x.az.getD (k+1) 0))
structure D7(x:bl):Prop where
 len:x.az.length=x.aA.length+1
 le:x.aA.length<=10
 a:∀ i,i<x.az.length->0<=x.az.getD i 0/\x.az.getD i 0<=9
 x:∀ i,i<x.aA.length->0<=x.aA.getD i 0/\x.aA.getD i 0<=9
theorem IK{α:Type}(f:α->Bool)(z:α):∀ (xs:List α),b9 f xs=true->∀ i,i<xs.length->f (xs.getD i z)=true
 | x::xs,h,0,_=>by simp only[b9,Bool.and_eq_true] at h;simpa using h.1
 | x::xs,h,i+1,hi=>by
  simp only[b9,a5I] at h
  simpa using IK f z xs h.2 i (by simpa using hi)
theorem Rf(gg:aD)(x:bl)(hg:aY gg=true)(h:gu gg x=true):D7 x:=by
 have hs:=tw gg hg
 simp only[gu,Lr,a5I,a5M] at h
 obtain⟨h1,⟨h2,h3⟩,h4⟩:=h
 refine⟨h2,h1,λ i hi=>?_,λ i hi=>?_⟩
 .have:=IK _ 0 _ h3 i hi
  simp only[cQ,a5M] at this;omega
 .have:=IK _ 0 _ h4 i hi
  simp only[cQ,a5M] at this;omega
theorem CV(x:bl)(h:D7 x):∀ k,k<=x.aA.length->(oT x k).length=1+5 * k
 | 0,_=>by
  have:=h.len
  rw[oT,kq _ (h.a 0 (by omega))]
 | k+1,hk=>by
  have:=h.len
  rw[oT,a5U,CV x h k (by omega)]
  simp only[a5U,a5O,a6a,kq _ (h.x k (by omega)),kq _ (h.a (k+1) (by omega))];omega
def mN(gg:aD)(x:bl):List UInt8:=if (aY gg&&gu gg x)=true then oT x x.aA.length else []
theorem PF(gg:aD)(x:bl)(h:(aY gg&&gu gg x)=true):oT x x.aA.length=mN gg x:=(a5T h).symm
theorem a1q(gg:aD)(x:bl)(h:(aY gg&&gu gg x)=false):[]=mN gg x:=(a5J (by rw[h];decide)).symm
theorem YU(x:bl):dQ (x.az.getD 0 0)=oT x 0:=rfl
theorem Pz(k:Nat):((k:Int)+1).toNat=k+1:=by omega
theorem Rg(x:bl)(k:Nat):oT x (k+1)=oT x k++([32,97]++dQ (x.aA.getD k 0)++[32]++dQ (x.az.getD (k+1) 0)):=rfl
theorem Vx(gg:aD)(x:bl)(h:(aY gg&&gu gg x)=true):D7 x:=by
 rw[a5I] at h;exact Rf gg x h.1 h.2
def jJ:bb:=⟨rm,[.v (.st .sig), .v (.st .word)],λ (gg:aD) (x:bl)=>⟨(none,[⟨.bool,aY gg&&gu gg x⟩])⟩⟩
def wQ(gg:aD)(x:bl):Nat->aX:=λ _ => .none
theorem Gd(gg:aD)(x:bl):cU (bo [cG,gh] [] [] [2,3]) (aF gw) (wQ gg x) 0 (bC (bo [cG,gh] [] [] [2,3]) gw λ r=>bH r [⟨.bool,aY gg&&gu gg x⟩]) (aO gw [.val ⟨(.st .sig),gg⟩, .val ⟨(.st .word),x⟩]) =
 ((((aY gg)=true ->
 (aY gg=true/\(gu gg x)=(aY gg&&gu gg x)))/\((aY gg)=(!true) ->
 false=(aY gg&&gu gg x)))):=by kernel_rfl
theorem FT(hE:aQ [cG,gh]):bb.Good jJ:=by
 refine⟨aG uO rfl (by decide),?_⟩
 show ∀ (gg:aD) (x:bl),True->bD prog rm [.val ⟨(.st .sig),gg⟩, .val ⟨(.st .word),x⟩] (·=[⟨.bool,aY gg&&gu gg x⟩])
 intro gg x _
 refine bu (wr:=[]) (cl:=[]) (ro:=[2,3]) hE uO BA (wQ gg x) ?_
 rewrite [Gd gg x]
 refine⟨λ a0=>⟨?_,?_⟩,λ a0=>?_⟩
 all_goals try and_intros
 all_goals first|rfl|trivial|(simp_all;done)
theorem BP:bb.Good jJ:=FT ⟨kd,wu,trivial⟩
def kW:bb:=⟨sf,[.v (.st .word)],λ (x:bl)=>⟨(some (D7 x),[⟨.str,oT x x.aA.length⟩])⟩⟩
def yA(x:bl):Nat->aX:=(λ zb=>if Nat.beq zb 0 then .mk (Nat) (λ k=>k<=x.aA.length) (λ k=>x.aA.length - k) [] [0,6,7,8,9,10,11] (λ k=>[(14, .aS ⟨(.int .i64),((k:Int):Int)⟩),(3, .aS ⟨.str,(oT x k:List UInt8)⟩)]) [1,2,3,4,5,12,13,14,15,16,17,18,19,20,21,22,23,24,25,26,27,28,29,30,31,32,33,34] (λ k=>[]) [] [] (λ k=>λ _ => .none) else .none)
theorem Iv(x:bl):cU (bo [pe] [] [] [1]) (aF im) (yA x) 0 (bC (bo [pe] [] [] [1]) im λ r=>bH r [⟨.str,oT x x.aA.length⟩]) (aO im [.val ⟨(.st .word),x⟩]) =
 ((x.az.length<=140737488355328 ->
 (aV (0:Int) x.az.length/\(ag (x.az.getD 0 (0:Int)) ->
 ((0<=(x.az.getD 0 (0:Int))/\(x.az.getD 0 (0:Int))<=9)/\((dQ (x.az.getD 0 (0:Int))).length<=140737488355328 ->
 (x.aA.length<=140737488355328 ->
 (ag ((x.aA.length:Int)) ->
 ((∃ k1:Nat,(k1<=x.aA.length/\((x=x/\(([]:List UInt8)=[]/\((dQ (x.az.getD 0 (0:Int)))=(oT x k1)/\(x.aA=x.aA/\(((x.aA.length:Int))=((x.aA.length:Int))/\((0:Int)=(k1:Int)/\True))))))/\True)))/\(∀ k1:Nat,(k1<=x.aA.length ->
 (((decide ((k1:Int)<((x.aA.length:Int))))=true ->
 (aV (k1:Int) x.aA.length/\(ag (x.aA.getD k1 (0:Int)) ->
 ((0<=(x.aA.getD k1 (0:Int))/\(x.aA.getD k1 (0:Int))<=9)/\(([32,97]).length+(dQ (x.aA.getD k1 (0:Int))).length<=140737488355328/\((([32,97])++(dQ (x.aA.getD k1 (0:Int)))).length+([32]).length<=140737488355328/\(ag ((k1:Int)+(1:Int))/\(aV ((k1:Int)+(1:Int)) x.az.length/\((0<=(x.az.getD (Int.toNat ((k1:Int)+(1:Int))) (0:Int))/\(x.az.getD (Int.toNat ((k1:Int)+(1:Int))) (0:Int))<=9)/\(((([32,97])++(dQ (x.aA.getD k1 (0:Int))))++([32])).length+(dQ (x.az.getD (Int.toNat ((k1:Int)+(1:Int))) (0:Int))).length<=140737488355328/\((dQ (x.aA.getD k1 (0:Int))).length<=140737488355328 ->
 (x.az.length<=140737488355328 ->
 (ag (x.az.getD (Int.toNat ((k1:Int)+(1:Int))) (0:Int)) ->
 ((dQ (x.az.getD (Int.toNat ((k1:Int)+(1:Int))) (0:Int))).length<=140737488355328 ->
 ((oT x k1).length+(((([32,97])++(dQ (x.aA.getD k1 (0:Int))))++([32]))++(dQ (x.az.getD (Int.toNat ((k1:Int)+(1:Int))) (0:Int)))).length<=140737488355328/\(ag ((k1:Int)+(1:Int))/\(∃ k2:Nat,(k2<=x.aA.length/\(x.aA.length - k2<x.aA.length - k1/\((x=x/\(([]:List UInt8)=[]/\(((oT x k1)++(((([32,97])++(dQ (x.aA.getD k1 (0:Int))))++([32]))++(dQ (x.az.getD (Int.toNat ((k1:Int)+(1:Int))) (0:Int)))))=(oT x k2)/\(x.aA=x.aA/\(((x.aA.length:Int))=((x.aA.length:Int))/\(((k1:Int)+(1:Int))=(k2:Int)/\True))))))/\True))))))))))))))))))))/\((decide ((k1:Int)<((x.aA.length:Int))))=false ->
 (oT x k1)=(oT x x.aA.length)))))))))))))):=by kernel_rfl
theorem HM(hE:aQ [pe]):bb.Good kW:=by
 refine⟨aG wb rfl (by decide),?_⟩
 show ∀ (x:bl),(D7 x)->bD prog sf [.val ⟨(.st .word),x⟩] (·=[⟨.str,oT x x.aA.length⟩])
 intro x hp
 refine bu (wr:=[]) (cl:=[]) (ro:=[1]) hE wb Dt (yA x) ?_
 rewrite [Iv x]
 have h:=hp
 refine λ a0=>⟨?_,λ a1=>⟨?_,λ a2=>λ a3=>λ a4=>⟨⟨0,⟨?_,⟨⟨rfl,⟨rfl,⟨?_,⟨rfl,⟨rfl,⟨?_,trivial⟩⟩⟩⟩⟩⟩,trivial⟩⟩⟩,λ k1=>λ a5=>⟨λ a6=>⟨?_,λ a7=>⟨?_,⟨?_,⟨?_,⟨?_,⟨?_,⟨?_,⟨?_,λ a8=>λ a9=>λ dt=>λ dP=>⟨?_,⟨?_,⟨k1+1,⟨?_,⟨?_,⟨⟨rfl,⟨rfl,⟨?_,⟨rfl,⟨rfl,⟨?_,trivial⟩⟩⟩⟩⟩⟩,trivial⟩⟩⟩⟩⟩⟩⟩⟩⟩⟩⟩⟩⟩⟩,λ a6=>?_⟩⟩⟩⟩
 all_goals try and_intros
 all_goals (try simp only[a5M,a5N,aV,ag,cE,a5U,a5O,a6a,a5X,Pz] at *);first|with_reducible rfl|exact YU x|omega|(have q1:=h.len;have q2:=h.le;first|omega|exact h.a 0 (by omega)|exact (h.a 0 (by omega)).1|exact (h.a 0 (by omega)).2|(have q3:=h.x k1 (by omega);have q4:=h.a (k1+1) (by omega);have q5:=CV x h k1 (by omega);have q6:=kq _ q3;have q7:=kq _ q4;first|omega|exact q3.1|exact q3.2|exact q4.1|exact q4.2|exact (Rg x k1).symm|exact Rg x k1)|(have e:k1=x.aA.length:=by omega;subst e;rfl)|(rw[show k1=x.aA.length by omega];done))
theorem DJ:bb.Good kW:=HM ⟨Ff,trivial⟩
def kV:bb:=⟨sb,[.v (.st .sig), .v (.st .word)],λ (gg:aD) (x:bl)=>⟨(none,[⟨.str,mN gg x⟩])⟩⟩
def yz(gg:aD)(x:bl):Nat->aX:=λ _ => .none
theorem Iu(gg:aD)(x:bl):cU (bo [jJ,kW] [] [] [2,3]) (aF ij) (yz gg x) 0 (bC (bo [jJ,kW] [] [] [2,3]) ij λ r=>bH r [⟨.str,mN gg x⟩]) (aO ij [.val ⟨(.st .sig),gg⟩, .val ⟨(.st .word),x⟩]) =
 ((((!(aY gg&&gu gg x))=true ->
 []=(mN gg x))/\((!(aY gg&&gu gg x))=false ->
 (D7 x/\((oT x x.aA.length).length<=140737488355328 ->
 (oT x x.aA.length)=(mN gg x)))))):=by kernel_rfl
theorem HL(hE:aQ [jJ,kW]):bb.Good kV:=by
 refine⟨aG v8 rfl (by decide),?_⟩
 show ∀ (gg:aD) (x:bl),True->bD prog sb [.val ⟨(.st .sig),gg⟩, .val ⟨(.st .word),x⟩] (·=[⟨.str,mN gg x⟩])
 intro gg x _
 refine bu (wr:=[]) (cl:=[]) (ro:=[2,3]) hE v8 Dr (yz gg x) ?_
 rewrite [Iu gg x]
 refine⟨λ a0=>?_,λ a0=>⟨?_,λ a1=>?_⟩⟩
 all_goals try and_intros
 all_goals (try simp only[a6g,a5Z,a6k,a7m] at *);first|rfl|trivial|exact Vx gg x (by with_reducible assumption)|exact PF gg x (by with_reducible assumption)|exact a1q gg x (by with_reducible assumption)
theorem DI:bb.Good kV:=HL ⟨BP,DJ,trivial⟩
def k9:bb:=⟨sn,[.v (.st .sig), .v (.st .word)],λ (gg:aD) (x:bl)=>⟨(none,[⟨.str,mN gg x⟩])⟩⟩
def yE(gg:aD)(x:bl):Nat->aX:=(λ zb=>if Nat.beq zb 0 then .mk (Nat) (λ k=>k<=x.aA.length/\(aY gg&&gu gg x)=true) (λ k=>x.aA.length - k) [] [0,1,2,7,8,9,10,11,12,13,14] (λ k=>[(6, .aS ⟨(.int .i64),((k:Int):Int)⟩),(5, .aS ⟨.str,(oT x k:List UInt8)⟩)]) [3,4,5,6,15,16,17,18,19,20,21,22,23,24,25,26,27,28,29,30,31,32,33,34,35,36,37,38,39,40] (λ k=>[]) [] [] (λ k=>λ _ => .none) else .none)
theorem Iz(gg:aD)(x:bl):cU (bo [fe,gH] [] [] [2,3]) (aF iw) (yE gg x) 0 (bC (bo [fe,gH] [] [] [2,3]) iw λ r=>bH r [⟨.str,mN gg x⟩]) (aO iw [.val ⟨(.st .sig),gg⟩, .val ⟨(.st .word),x⟩]) =
 ((((!(aY gg&&gu gg x))=true ->
 []=(mN gg x))/\((!(aY gg&&gu gg x))=false ->
 (x.az.length<=140737488355328 ->
 (aV (0:Int) x.az.length/\(ag (x.az.getD 0 (0:Int)) ->
 ((0<=(x.az.getD 0 (0:Int))/\(x.az.getD 0 (0:Int))<=9)/\((dQ (x.az.getD 0 (0:Int))).length<=140737488355328 ->
 ((∃ k1:Nat,((k1<=x.aA.length/\(aY gg&&gu gg x)=true)/\((x=x/\(([]:List UInt8)=[]/\((dQ (x.az.getD 0 (0:Int)))=(oT x k1)/\((0:Int)=(k1:Int)/\True))))/\True)))/\(∀ k1:Nat,((k1<=x.aA.length/\(aY gg&&gu gg x)=true) ->
 (x.aA.length<=140737488355328 ->
 (ag ((x.aA.length:Int)) ->
 (((decide ((k1:Int)<((x.aA.length:Int))))=true ->
 (aV (k1:Int) x.aA.length/\((0<=(x.aA.getD k1 (0:Int))/\(x.aA.getD k1 (0:Int))<=9)/\(([32,97]).length+(dQ (x.aA.getD k1 (0:Int))).length<=140737488355328/\((([32,97])++(dQ (x.aA.getD k1 (0:Int)))).length+([32]).length<=140737488355328/\(ag ((k1:Int)+(1:Int))/\(aV ((k1:Int)+(1:Int)) x.az.length/\((0<=(x.az.getD (Int.toNat ((k1:Int)+(1:Int))) (0:Int))/\(x.az.getD (Int.toNat ((k1:Int)+(1:Int))) (0:Int))<=9)/\(((([32,97])++(dQ (x.aA.getD k1 (0:Int))))++([32])).length+(dQ (x.az.getD (Int.toNat ((k1:Int)+(1:Int))) (0:Int))).length<=140737488355328/\(x.aA.length<=140737488355328 ->
 (ag (x.aA.getD k1 (0:Int)) ->
 ((dQ (x.aA.getD k1 (0:Int))).length<=140737488355328 ->
 (x.az.length<=140737488355328 ->
 (ag (x.az.getD (Int.toNat ((k1:Int)+(1:Int))) (0:Int)) ->
 ((dQ (x.az.getD (Int.toNat ((k1:Int)+(1:Int))) (0:Int))).length<=140737488355328 ->
 ((oT x k1).length+(((([32,97])++(dQ (x.aA.getD k1 (0:Int))))++([32]))++(dQ (x.az.getD (Int.toNat ((k1:Int)+(1:Int))) (0:Int)))).length<=140737488355328/\(ag ((k1:Int)+(1:Int))/\(∃ k2:Nat,((k2<=x.aA.length/\(aY gg&&gu gg x)=true)/\(x.aA.length - k2<x.aA.length - k1/\((x=x/\(([]:List UInt8)=[]/\(((oT x k1)++(((([32,97])++(dQ (x.aA.getD k1 (0:Int))))++([32]))++(dQ (x.az.getD (Int.toNat ((k1:Int)+(1:Int))) (0:Int)))))=(oT x k2)/\(((k1:Int)+(1:Int))=(k2:Int)/\True))))/\True)))))))))))))))))))))/\((decide ((k1:Int)<((x.aA.length:Int))))=false ->
 (oT x k1)=(mN gg x)))))))))))))))):=by kernel_rfl
theorem HQ(hE:aQ [fe,gH]):bb.Good k9:=by
 refine⟨aG wi rfl (by decide),?_⟩
 show ∀ (gg:aD) (x:bl),True->bD prog sn [.val ⟨(.st .sig),gg⟩, .val ⟨(.st .word),x⟩] (·=[⟨.str,mN gg x⟩])
 intro gg x _
 refine bu (wr:=[]) (cl:=[]) (ro:=[2,3]) hE wi Dx (yE gg x) ?_
 rewrite [Iz gg x]
 have h:=Vx gg x
 refine⟨λ a0=>?_,λ a0=>λ a1=>⟨?_,λ a2=>⟨?_,λ a3=>⟨⟨0,⟨?_,⟨⟨rfl,⟨rfl,⟨?_,⟨?_,trivial⟩⟩⟩⟩,trivial⟩⟩⟩,λ k1=>λ a4=>λ a5=>λ a6=>⟨λ a7=>⟨?_,⟨?_,⟨?_,⟨?_,⟨?_,⟨?_,⟨?_,⟨?_,λ a8=>λ a9=>λ dt=>λ dP=>λ a12=>λ dK=>⟨?_,⟨?_,⟨k1+1,⟨?_,⟨?_,⟨⟨rfl,⟨rfl,⟨?_,⟨?_,trivial⟩⟩⟩⟩,trivial⟩⟩⟩⟩⟩⟩⟩⟩⟩⟩⟩⟩⟩⟩,λ a7=>?_⟩⟩⟩⟩⟩
 all_goals try and_intros
 all_goals (try simp only[a6g,a5Z,a6k,a7m,a5M,a5N,aV,ag,cE,a5U,a5O,a6a,a5X,Pz] at *);first|with_reducible rfl|exact YU x|omega|exact PF gg x (by with_reducible assumption)|exact a1q gg x (by with_reducible assumption)|(have h:=h (by with_reducible assumption);have q1:=h.len;have q2:=h.le;first|omega|exact h.a 0 (by omega)|exact (h.a 0 (by omega)).1|exact (h.a 0 (by omega)).2|(have q3:=h.x k1 (by omega);have q4:=h.a (k1+1) (by omega);have q5:=CV x h k1 (by omega);have q6:=kq _ q3;have q7:=kq _ q4;first|omega|exact q3.1|exact q3.2|exact q4.1|exact q4.2|exact (Rg x k1).symm|exact Rg x k1)|(rw[<-PF gg x (by with_reducible assumption),show k1=x.aA.length by omega];done))
theorem DN:bb.Good k9:=HQ ⟨u9,uZ,trivial⟩
def ma:bb:=⟨tV,[.v (.slice (.int .i64)), .v (.slice (.int .i64))],λ (xs:List Int) (ys:List Int)=>⟨(none,[⟨.bool,fN xs ys⟩])⟩⟩
def Av(xs:List Int)(ys:List Int):Nat->aX:=(λ zb=>if Nat.beq zb 0 then .mk (Nat) (λ k=>k<=xs.length/\xs.length=ys.length/\xs.take k=ys.take k) (λ k=>xs.length - k) [] [2,3,6,7,8,9,10] (λ k=>[(5, .aS ⟨(.int .i64),((k:Int):Int)⟩)]) [0,1,4,5,11,12,13,14,15,16,17,18,19,20,21,22,23,24,25] (λ k=>[]) [] [] (λ k=>λ _ => .none) else .none)
theorem JV(xs:List Int)(ys:List Int):cU (bo []) (aF jd) (Av xs ys) 0 (bC (bo []) jd λ r=>bH r [⟨.bool,fN xs ys⟩]) (aO jd [.val ⟨(.slice (.int .i64)),xs⟩, .val ⟨(.slice (.int .i64)),ys⟩]) =
 ((ag ((xs.length:Int)) ->
 (ag ((ys.length:Int)) ->
 (((!(decide (((xs.length:Int))=((ys.length:Int)))))=true ->
 false=(fN xs ys))/\((!(decide (((xs.length:Int))=((ys.length:Int)))))=false ->
 ((∃ k1:Nat,((k1<=xs.length/\xs.length=ys.length/\xs.take k1=ys.take k1)/\((xs=xs/\(ys=ys/\((0:Int)=(k1:Int)/\True)))/\True)))/\(∀ k1:Nat,((k1<=xs.length/\xs.length=ys.length/\xs.take k1=ys.take k1) ->
 (ag ((xs.length:Int)) ->
 (((decide ((k1:Int)<((xs.length:Int))))=true ->
 (aV (k1:Int) xs.length/\(aV (k1:Int) ys.length/\(ag (xs.getD k1 (0:Int)) ->
 (ag (ys.getD k1 (0:Int)) ->
 (((!(decide ((xs.getD k1 (0:Int))=(ys.getD k1 (0:Int)))))=true ->
 false=(fN xs ys))/\((!(decide ((xs.getD k1 (0:Int))=(ys.getD k1 (0:Int)))))=false ->
 (ag ((k1:Int)+(1:Int))/\(∃ k2:Nat,((k2<=xs.length/\xs.length=ys.length/\xs.take k2=ys.take k2)/\(xs.length - k2<xs.length - k1/\((xs=xs/\(ys=ys/\(((k1:Int)+(1:Int))=(k2:Int)/\True)))/\True))))))))))))/\((decide ((k1:Int)<((xs.length:Int))))=false ->
 true=(fN xs ys)))))))))))):=by kernel_rfl
theorem Js(hE:aQ []):bb.Good ma:=by
 refine⟨aG xL rfl (by decide),?_⟩
 show ∀ (xs:List Int) (ys:List Int),True->bD prog tV [.val ⟨(.slice (.int .i64)),xs⟩, .val ⟨(.slice (.int .i64)),ys⟩] (·=[⟨.bool,fN xs ys⟩])
 intro xs ys _
 refine bu (wr:=[]) (cl:=[]) (ro:=[]) hE xL EW (Av xs ys) ?_
 rewrite [JV xs ys]
 refine λ a0=>λ a1=>⟨λ a2=>?_,λ a2=>⟨⟨0,⟨?_,⟨⟨rfl,⟨rfl,⟨?_,trivial⟩⟩⟩,trivial⟩⟩⟩,λ k1 a3=>have a0q:=vN 0 xs ys k1;have a0r:=nO xs ys k1;λ a4=>⟨λ a5=>⟨?_,⟨?_,λ a6=>λ a7=>⟨λ a8=>?_,λ a8=>⟨?_,⟨k1+1,⟨?_,⟨?_,⟨⟨rfl,⟨rfl,⟨?_,trivial⟩⟩⟩,trivial⟩⟩⟩⟩⟩⟩⟩⟩,λ a5=>?_⟩⟩⟩
 all_goals try and_intros
 all_goals first|rfl|trivial|(simp only[decide_eq_true_eq,decide_eq_false_iff_not,Bool.not_eq_false',Bool.not_eq_true',decide_not,aV,ag] at *;first|omega|grind)|grind [RM,OZ]
theorem Fi:bb.Good ma:=Js trivial
theorem VF(x y:bl):fN x y=(fN x.az y.az&&fN x.aA y.aA):=by
 refine a8L.2 ?_
 cases x;cases y;simp
def kZ:bb:=⟨sj,[.v (.st .word), .v (.st .word)],λ (x:bl) (y:bl)=>⟨(none,[⟨.bool,fN x y⟩])⟩⟩
def yD(x:bl)(y:bl):Nat->aX:=λ _ => .none
theorem Iy(x:bl)(y:bl):cU (bo [ma] [] [] [2,3]) (aF iv) (yD x y) 0 (bC (bo [ma] [] [] [2,3]) iv λ r=>bH r [⟨.bool,fN x y⟩]) (aO iv [.val ⟨(.st .word),x⟩, .val ⟨(.st .word),y⟩]) =
 ((x.az.length<=140737488355328 ->
 (y.az.length<=140737488355328 ->
 (((fN x.az y.az)=true ->
 (x.aA.length<=140737488355328 ->
 (y.aA.length<=140737488355328 ->
 (fN x.aA y.aA)=(fN x y))))/\((fN x.az y.az)=(!true) ->
 false=(fN x y)))))):=by kernel_rfl
theorem HP(hE:aQ [ma]):bb.Good kZ:=by
 refine⟨aG wh rfl (by decide),?_⟩
 show ∀ (x:bl) (y:bl),True->bD prog sj [.val ⟨(.st .word),x⟩, .val ⟨(.st .word),y⟩] (·=[⟨.bool,fN x y⟩])
 intro x y _
 refine bu (wr:=[]) (cl:=[]) (ro:=[2,3]) hE wh Dw (yD x y) ?_
 rewrite [Iy x y]
 have f:=VF x y
 refine λ a0=>λ a1=>⟨λ a2=>λ a3=>λ a4=>?_,λ a2=>?_⟩
 all_goals try and_intros
 all_goals first|rfl|trivial|(rw[f];simp_all;done)|(simp_all;done)
theorem DM:bb.Good kZ:=HP ⟨Fi,trivial⟩
theorem Fa(c:UInt8)(l p:List UInt8)(h:∀ b∈p,(b == c)=false):bf c (l++c::p)=bf c l++[p]:=by
 unfold bf OY
 rw[a7X,a7k]
 generalize l.foldl (jB c) ([],[])=q
 have e:jB c q c=(q.1++[q.2],[]):=by simp[jB]
 rw[e,C2 c p _ [] h];simp
theorem a3z(n:Int)(h:0<=n/\n<=9):dQ n=[UInt8.ofNat (48+n.toNat)]:=by unfold dQ;rw[Lib.decDigits_one (by omega)]
theorem WY:∀ m:Fin 10,jC [UInt8.ofNat (48+m.val)]=(m.val:Int)/\gD 1 [UInt8.ofNat (48+m.val)]=true/\(UInt8.ofNat (48+m.val) == 32)=false:=by decide
theorem BE(n:Int)(h:0<=n/\n<=9):jC (dQ n)=n/\gD 1 (dQ n)=true/\∀ b∈dQ n,(b == 32)=false:=by
 obtain⟨h1,h2,h3⟩:=WY ⟨n.toNat,by omega⟩
 rw[a3z n h]
 refine⟨by rw[h1];simp only;omega,h2,λ b hb=>?_⟩
 rw[a6t] at hb
 rw[hb];exact h3
def vJ(x:bl):Nat->List (List UInt8)
 | 0=>[dQ (x.az.getD 0 0)]
 | k+1=>vJ x k++[97::dQ (x.aA.getD k 0)]++[dQ (x.az.getD (k+1) 0)]
theorem GQ(x:bl)(h:D7 x):∀ k,k<=x.aA.length->bf 32 (oT x k)=vJ x k
 | 0,_=>by
  have:=h.len
  exact Ms 32 _ (BE _ (h.a 0 (by omega))).2.2
 | k+1,hk=>by
  have:=h.len
  have e:oT x (k+1)=(oT x k++32::(97::dQ (x.aA.getD k 0)))++32::dQ (x.az.getD (k+1) 0):=by rw[oT];simp
  rw[e,Fa 32 _ _ (BE _ (h.a (k+1) (by omega))).2.2,Fa 32 _ _ (λ b hb=>?_),GQ x h k (by omega),vJ]
  rcases a5P.1 hb with e|e
  .rw[e];decide
  .exact (BE _ (h.x k (by omega))).2.2 b e
theorem HZ(x:bl):∀ k,(vJ x k).length=2 * k+1
 | 0=>rfl
 | k+1=>by simp[vJ,HZ x k];omega
theorem Df(x:bl):∀ K k,k<=K->(vJ x K).getD (2 * k) []=dQ (x.az.getD k 0)/\(k<K->(vJ x K).getD (2 * k+1) []=97::dQ (x.aA.getD k 0))
 | 0,k,h=>by
  have:k=0:=by omega
  subst this
  exact⟨rfl,λ q=>absurd q (by omega)⟩
 | K+1,k,h=>by
  have hl:=HZ x K
  have e:vJ x (K+1)=vJ x K++[97::dQ (x.aA.getD K 0),dQ (x.az.getD (K+1) 0)]:=by rw[vJ];simp
  rw[e]
  simp only[a6o]
  rcases a6w K k with q|q
  .have:k=K+1:=by omega
   subst this
   refine⟨?_,λ q=>absurd q (by omega)⟩
   rw[a6V (by omega),hl,show 2 * (K+1) - (2 * K+1)=1 by omega];rfl
  .obtain⟨p1,p2⟩:=Df x K k q
   simp only[a6o] at p1 p2
   refine⟨by rw[a7o (by omega)];exact p1,λ _=>?_⟩
   rcases a6w k K with r|r
   .rw[a7o (by omega)];exact p2 r
   .have:k=K:=by omega
    subst this
    rw[a6V (by omega),hl,Nat.sub_self];rfl
theorem Gb(xs:List Int)(k:Nat)(h:k<xs.length):xs.take (k+1)=xs.take k++[xs.getD k 0]:=pW 0 xs k h
theorem a0w(x:bl)(h:D7 x):∀ k,k<=x.aA.length->mC (vJ x x.aA.length) (2 * k+1)=x.az.take (k+1)/\mK (vJ x x.aA.length) (2 * k+1)=x.aA.take k
 | 0,_=>by
  have hl:=h.len
  have p:=(Df x x.aA.length 0 (by omega)).1
  obtain⟨e1,e2⟩:=BG (vJ x x.aA.length) 0 (by omega)
  rw[e1,e2,p,(BE _ (h.a 0 (by omega))).1,Gb _ 0 (by omega)]
  exact⟨rfl,rfl⟩
 | k+1,hk=>by
  have hl:=h.len
  obtain⟨r1,r2⟩:=a0w x h k (by omega)
  have p1:=(Df x x.aA.length k (by omega)).2 (by omega)
  have p2:=(Df x x.aA.length (k+1) hk).1
  obtain⟨e1,e2⟩:=LJ (vJ x x.aA.length) (2 * k+1) (by omega)
  obtain⟨d1,d2⟩:=BG (vJ x x.aA.length) (2 * k+1+1) (by omega)
  rw[show 2 * (k+1)+1=2 * k+1+1+1 by omega,d1,d2,e1,e2,r1,r2,p1]
  rw[show 2 * k+1+1=2 * (k+1) by omega,p2,a8U,a8c,(BE _ (h.a (k+1) (by omega))).1,(BE _ (h.x k (by omega))).1,<-Gb _ _ (by omega),<-Gb _ _ (by omega)]
  exact⟨rfl,rfl⟩
theorem a0W(x:bl)(h:D7 x):QS (vJ x x.aA.length)=x:=by
 obtain⟨e1,e2⟩:=a0w x h x.aA.length (a6b _)
 unfold QS
 rw[HZ,e1,e2,a8g,a6O (by have:=h.len;omega)]
theorem a2x(x:bl)(h:D7 x)(i:Nat)(hi:i<(vJ x x.aA.length).length):HX 1 (vJ x x.aA.length) i=true:=by
 have hl:=h.len
 rw[HZ] at hi
 rcases Nat.mod_two_eq_zero_or_one i with e|e
 .obtain⟨k,rfl⟩:∃ k,i=2 * k:=⟨i / 2,by omega⟩
  rw[JI _ _ _ (by omega),(Df x _ k (by omega)).1]
  exact (BE _ (h.a k (by omega))).2.1
 .obtain⟨k,rfl⟩:∃ k,i=2 * k+1:=⟨i / 2,by omega⟩
  rw[HY _ _ _ e,(Df x _ k (by omega)).2 (by omega)]
  rw[a8U,a8c,(BE _ (h.x k (by omega))).2.1]
  rfl
theorem UE(gg:aD)(x:bl)(hg:aY gg=true)(hw:gu gg x=true):tu gg (mN gg x)=x/\oS gg (mN gg x)=0:=by
 have h:=Rf gg x hg hw
 have ht:mN gg x=oT x x.aA.length:=(PF gg x (by rw[hg,hw];rfl)).symm
 have hl:=CV x h x.aA.length (a6b _)
 have hi:JK gg (mN gg x)=true:=by
  rw[ht,JK,GQ x h _ (a6b _),QR,a0W x h,hw,a7q,a5I]
  exact⟨a6L (by have:=h.le;omega),Rm _ _ (a2x x h)⟩
 refine⟨?_,by simp[oS,hg,hi]⟩
 rw[tu,hg,hi,ht,GQ x h _ (a6b _),a0W x h];rfl
theorem Mz(ps:List (List UInt8)):∀ n,(mC ps n).length=(n+1) / 2/\(mK ps n).length=n / 2
 | 0=>⟨rfl,rfl⟩
 | n+1=>by
  obtain⟨h1,h2⟩:=Mz ps n
  by_cases q:n % 2=1
  .obtain⟨e1,e2⟩:=LJ ps n q
   rw[e1,e2,a5U,h1,h2];simp only[a5O,a6a];omega
  .obtain⟨e1,e2⟩:=BG ps n q
   rw[e1,e2,a5U,h1,h2];simp only[a5O,a6a];omega
theorem YT(gg:aD)(x:bl)(hg:aY gg=true)(hw:gu gg x=true):oS gg (mN gg x++[32,97,48])=5:=by
 have h:=Rf gg x hg hw
 have ht:mN gg x=oT x x.aA.length:=(PF gg x (by rw[hg,hw];rfl)).symm
 have hc:bf 32 (mN gg x++[32,97,48])=vJ x x.aA.length++[[97,48]]:=by
  rw[ht,<-GQ x h _ (a6b _)]
  exact Fa 32 _ [97,48] (by decide)
 have hb:JK gg (mN gg x++[32,97,48])=false:=by
  rw[JK,hc,QR,gu,Lr]
  obtain⟨e1,e2⟩:=Mz (vJ x x.aA.length++[[97,48]]) (vJ x x.aA.length++[[97,48]]).length
  have hl:=HZ x x.aA.length
  have:decide ((QS (vJ x x.aA.length++[[97,48]])).az.length=(QS (vJ x x.aA.length++[[97,48]])).aA.length+1)=false:=by
   refine a7n ?_
   show ¬ (mC _ _).length=(mK _ _).length+1
   rw[e1,e2,a5U,hl];simp only[a5O,a6a];omega
  rw[this];simp
 simp[oS,hg,hb]
theorem Tz(gg:aD)(x:O)(h:jS gg x=true):JL gg (oU gg x)=x/\yO gg (oU gg x)=0:=by
 have hh:=h
 simp only[jS,a5I] at hh
 obtain⟨h1,h2,h3⟩:=vl gg x hh.1 hh.2
 have et:oU gg x=bA x:=(RN gg x h).symm
 have ho:=VG x h1 h2
 have ht:N7 (bA x)=⟨x,true,(bA x).length⟩:=ho
 have hr:fI gg (bA x)=true:=by rw[fI,ht,hh.2];simp
 have hv:lW gg (bA x)=x:=by rw[lW,hr,ht];rfl
 rw[et,JL,yO,hh.1,hr,hv,a6L (by omega:(bA x).length<=4000)]
 exact⟨rfl,rfl⟩
theorem W2(gg:aD)(x:O)(h:jS gg x=true):yO gg (oU gg x++[32])=5:=by
 have hh:=h
 simp only[jS,a5I] at hh
 obtain⟨h1,h2,h3⟩:=vl gg x hh.1 hh.2
 have et:oU gg x=bA x:=(RN gg x h).symm
 obtain⟨m,n,c,e1,e2,e3,e4,e5,e6⟩:=Po _ _ (a6c _) h1
 have ht:N7 (bA x++[32])=⟨x,true,0+(bA x).length⟩ :=
  I1 (dB (bA x++[32]) 41) (bA x++[32]) 0 [32] x c m n e1 e2 e3 e6 (by omega) (by omega) (λ b l g=>by cases g;decide) (by simp) (λ r' Qo=>IU _ c (a6c _) e2 e3 (bA x++[32]) 41 (0+n) r' (by omega) (by omega) Qo)
 have hr:fI gg (bA x++[32])=false:=by
  rw[fI,ht]
  have:decide (0+(bA x).length=(bA x++[32]).length)=false:=a7n (by simp)
  simp only[this,a8f,a8e]
 have hl:(bA x++[32]).length<=4000:=by rw[a5U];simp only[a5O,a6a];omega
 rw[et,yO,hh.1,hr,a6L hl];rfl
end
end Go.Proofs.YtnehkikdlnmebaaGreatDoor

set_option maxRecDepth 4000
set_option maxHeartbeats 4000000
namespace Go.Proofs.YtnehkikdlnmebaaGreatDoor
noncomputable section
theorem Zb{α:Type}(x:α):fN x x=true:=by simp
structure LF(J more:List Int):Prop where
 le:J.length<=1000000/\more.length<=1000000
 ok:jS (eG J) (eX J)=true
 e1:JL (eG J) (oU (eG J) (eX J))=eX J
 e2:yO (eG J) (oU (eG J) (eX J))=0
 e3:yO (eG J) ((oU (eG J) (eX J))++[32])=5
 w1:tu (eG J) (mN (eG J) (oF more (eG J) (eX J)))=(oF more (eG J) (eX J))
 w2:oS (eG J) (mN (eG J) (oF more (eG J) (eX J)))=0
 w3:oS (eG J) ((mN (eG J) (oF more (eG J) (eX J)))++[32,97,48])=5
 n1:(oU (eG J) (eX J)).length<=1000
 n2:(mN (eG J) (oF more (eG J) (eX J))).length<=1000
theorem lf(J more:List Int)(hc:dT J)(h:J.length<=3000/\more.length<=3000):LF J more:=by
 have F:=e_f J hc (by omega)
 have ow:=Y1 more (eG J) (eX J) F.g
 obtain⟨a1,a2⟩:=Tz _ _ F.ok
 obtain⟨b1,b2⟩:=UE _ _ F.g ow
 refine⟨⟨by omega,by omega⟩,F.ok,a1,a2,W2 _ _ F.ok,b1,b2,YT _ _ F.g ow,?_,?_⟩
 .have hh:=F.ok
  rw[<-RN _ _ F.ok]
  simp only[jS,a5I] at hh
  exact (vl _ _ hh.1 hh.2).2.2
 .have hw:=Rf _ _ F.g ow
  rw[<-PF _ _ (by rw[F.g,ow];rfl),CV _ hw _ (a6b _)]
  have:=hw.le;omega
def ny:bb:=⟨vB,[.v (.slice (.int .u8)), .v (.slice (.int .u8))],λ (xs:List Int) (ys:List Int)=>⟨(none,[⟨.bool,decide (3000<xs.length)||decide (3000<ys.length)⟩])⟩⟩
def Cg(xs:List Int)(ys:List Int):Nat->aX:=λ _ => .none
theorem Ly(xs:List Int)(ys:List Int):cU (bo []) (aF kE) (Cg xs ys) 0 (bC (bo []) kE λ r=>bH r [⟨.bool,decide (3000<xs.length)||decide (3000<ys.length)⟩]) (aO kE [.val ⟨(.slice (.int .u8)),xs⟩, .val ⟨(.slice (.int .u8)),ys⟩]) =
 ((ag ((xs.length:Int)) ->
 (((decide ((3000:Int)<((xs.length:Int))))=false ->
 (ag ((ys.length:Int)) ->
 (decide ((3000:Int)<((ys.length:Int))))=(decide (3000<xs.length)||decide (3000<ys.length))))/\((decide ((3000:Int)<((xs.length:Int))))=(!false) ->
 true=(decide (3000<xs.length)||decide (3000<ys.length)))))):=by kernel_rfl
theorem Lk(hE:aQ []):bb.Good ny:=by
 refine⟨aG Ag rfl (by decide),?_⟩
 show ∀ (xs:List Int) (ys:List Int),True->bD prog vB [.val ⟨(.slice (.int .u8)),xs⟩, .val ⟨(.slice (.int .u8)),ys⟩] (·=[⟨.bool,decide (3000<xs.length)||decide (3000<ys.length)⟩])
 intro xs ys _
 refine bu (wr:=[]) (cl:=[]) (ro:=[]) hE Ag GF (Cg xs ys) ?_
 rewrite [Ly xs ys]
 refine λ a0=>⟨λ a1=>λ a2=>?_,λ a1=>?_⟩
 all_goals try and_intros
 all_goals first|rfl|trivial|omega|(simp only[a5M,a5N] at *;first|omega|grind)|grind
theorem Hd:bb.Good ny:=Lk trivial
theorem He:bb.Good jr:=FP.plain
theorem DG:bb.Good gA:=Cv.plain
theorem DH:bb.Good gB:=Cw.plain
def vp:bb:=⟨lU,[.v (.slice (.int .u8)), .v (.slice (.int .u8))],λ (J:List Int) (more:List Int)=>⟨(some (dT J/\dT more),[⟨.bool,true⟩])⟩⟩
def vr(J:List Int)(more:List Int):Nat->aX:=(λ zb=>if Nat.beq zb 100003 then .mk (Unit) (λ u=>J.length<=3000/\more.length<=3000) (λ u=>0) [] [2,3,16,17,18] (λ u=>[]) [0,1,4,5,6,7,8,9,10,11,12,13,14,15,19,20,21,22,23,24,25,26,27,28,29,30,31,32,33,34,35,36,37,38,39,40,41,42,43,44,45,46,47,48,49,50,51,52,53,54,55,56,57,58,59,60,61,62,63,64,65,66,67,68,69,70,71,72,73,74,75,76,77,78,79,80,81,82,83,84,85] (λ u=>[]) [] [] (λ u=>λ _ => .none) else .none)
abbrev sU(J:List Int)(more:List Int):Prop:=((oF more (eG J) (aC (eX J))).az=(oF more (eG J) (aC (eX J))).az/\((oF more (eG J) (aC (eX J))).aA=(oF more (eG J) (aC (eX J))).aA/\True))
abbrev nu(J:List Int)(more:List Int):Prop:=(((decide ((yO (eG J) ((oU (eG J) (aC (eX J)))++([32])))=(5:Int)))=true ->
 (decide ((oS (eG J) ((mN (eG J) (oF more (eG J) (aC (eX J))))++([32,97,48])))=(5:Int)))=true)/\((decide ((yO (eG J) ((oU (eG J) (aC (eX J)))++([32])))=(5:Int)))=(!true) ->
 false=true))
abbrev nv(J:List Int)(more:List Int):Prop:=((false=true ->
 (decide ((oS (eG J) ((mN (eG J) (oF more (eG J) (aC (eX J))))++([32,97,48])))=(5:Int)))=true)/\(false=(!true) ->
 false=true))
abbrev sV(J:List Int)(more:List Int):Prop:=(((fN (tu (eG J) (mN (eG J) (oF more (eG J) (aC (eX J))))) (oF more (eG J) (aC (eX J))))=true ->
 (nu J more))/\((fN (tu (eG J) (mN (eG J) (oF more (eG J) (aC (eX J))))) (oF more (eG J) (aC (eX J))))=(!true) ->
 (nv J more)))
abbrev sW(J:List Int)(more:List Int):Prop:=(((fN (aC (eX J)) (aC (JL (eG J) (oU (eG J) (aC (eX J))))))=true ->
 (sV J more))/\((fN (aC (eX J)) (aC (JL (eG J) (oU (eG J) (aC (eX J))))))=(!true) ->
 ((false=true ->
 (nu J more))/\(false=(!true) ->
 (nv J more)))))
abbrev sY(J:List Int)(more:List Int):Prop:=((false=true ->
 (sV J more))/\(false=(!true) ->
 ((false=true ->
 (nu J more))/\(false=(!true) ->
 (nv J more)))))
theorem D2(J:List Int)(more:List Int):cU (dj [ny,jr,nz,kU,gA,kV,gB,kX,k9,kY,kZ] [] [] [] []) (aF fO) (vr J more) 0 (bC (dj [ny,jr,nz,kU,gA,kV,gB,kX,k9,kY,kZ] [] [] [] []) fO λ r=>bH r [⟨.bool,true⟩]) (aO fO [.val ⟨(.slice (.int .u8)),J⟩, .val ⟨(.slice (.int .u8)),more⟩]) =
 (((((decide (3000<J.length)||decide (3000<more.length))=true ->
 true=true)/\((decide (3000<J.length)||decide (3000<more.length))=false ->
 (∃ u1:Unit,((J.length<=3000/\more.length<=3000)/\((J=J/\(more=more/\True))/\True)))))/\(∀ u1:Unit,((J.length<=3000/\more.length<=3000) ->
 ((dT J/\J.length<=1000000)/\((dT more/\more.length<=1000000/\jS (eG J) (aC (eX J))=true)/\(((eG J).aE=(eG J).aE/\((eG J).ai=(eG J).ai/\True))/\(((eG J).aE=(eG J).aE/\((eG J).ai=(eG J).ai/\True))/\(((eX J).ah=(eX J).ah/\((eX J).bc=(eX J).bc/\((eX J).V=(eX J).V/\True)))/\((oU (eG J) (aC (eX J))).length<=140737488355328 ->
 (((eG J).aE=(eG J).aE/\((eG J).ai=(eG J).ai/\True))/\(ag (yO (eG J) (oU (eG J) (aC (eX J)))) ->
 (((eG J).aE=(eG J).aE/\((eG J).ai=(eG J).ai/\True))/\(((eG J).aE=(eG J).aE/\((eG J).ai=(eG J).ai/\True))/\((sU J more)/\((mN (eG J) (oF more (eG J) (aC (eX J)))).length<=140737488355328 ->
 (((eG J).aE=(eG J).aE/\((eG J).ai=(eG J).ai/\True))/\((mN (eG J) (oF more (eG J) (aC (eX J)))).length<=1048576/\(ag (oS (eG J) (mN (eG J) (oF more (eG J) (aC (eX J))))) ->
 (((eG J).aE=(eG J).aE/\((eG J).ai=(eG J).ai/\True))/\(((eG J).aE=(eG J).aE/\((eG J).ai=(eG J).ai/\True))/\(((eX J).ah=(eX J).ah/\((eX J).bc=(eX J).bc/\((eX J).V=(eX J).V/\True)))/\((oU (eG J) (aC (eX J))).length<=140737488355328 ->
 (((eG J).aE=(eG J).aE/\((eG J).ai=(eG J).ai/\True))/\((oU (eG J) (aC (eX J))).length+([32]).length<=140737488355328/\(((eG J).aE=(eG J).aE/\((eG J).ai=(eG J).ai/\True))/\(ag (yO (eG J) ((oU (eG J) (aC (eX J)))++([32]))) ->
 (((eG J).aE=(eG J).aE/\((eG J).ai=(eG J).ai/\True))/\(((eG J).aE=(eG J).aE/\((eG J).ai=(eG J).ai/\True))/\((sU J more)/\((mN (eG J) (oF more (eG J) (aC (eX J)))).length<=140737488355328 ->
 (((eG J).aE=(eG J).aE/\((eG J).ai=(eG J).ai/\True))/\((mN (eG J) (oF more (eG J) (aC (eX J)))).length+([32,97,48]).length<=140737488355328/\(((eG J).aE=(eG J).aE/\((eG J).ai=(eG J).ai/\True))/\(((mN (eG J) (oF more (eG J) (aC (eX J))))++([32,97,48])).length<=1048576/\(ag (oS (eG J) ((mN (eG J) (oF more (eG J) (aC (eX J))))++([32,97,48]))) ->
 (((decide ((yO (eG J) (oU (eG J) (aC (eX J))))=(0:Int)))=true ->
 (((decide ((oS (eG J) (mN (eG J) (oF more (eG J) (aC (eX J)))))=(0:Int)))=true ->
 (sW J more))/\((decide ((oS (eG J) (mN (eG J) (oF more (eG J) (aC (eX J)))))=(0:Int)))=(!true) ->
 (sY J more))))/\((decide ((yO (eG J) (oU (eG J) (aC (eX J))))=(0:Int)))=(!true) ->
 ((false=true ->
 (sW J more))/\(false=(!true) ->
 (sY J more))))))))))))))))))))))))))))))))))))))))):=by kernel_rfl
theorem DY(hE:aQ [ny,jr,nz,kU,gA,kV,gB,kX,k9,kY,kZ])(hO:iE [])(hM:iS [])(hS:gU []):bb.Good vp:=by
 refine⟨aG ua rfl (by decide),?_⟩
 show ∀ (J:List Int) (more:List Int),(dT J/\dT more)->bD prog lU [.val ⟨(.slice (.int .u8)),J⟩, .val ⟨(.slice (.int .u8)),more⟩] (·=[⟨.bool,true⟩])
 intro J more hp
 refine KH (own:=[]) (wr:=[]) (cl:=[]) (ro:=[]) hE hO hM hS ua AW (vr J more) ?_
 rewrite [D2 J more]
 have T:=lf J more hp.1
 refine⟨⟨λ a0=>rfl,λ a0=>⟨(),⟨?_,⟨⟨rfl,⟨rfl,trivial⟩⟩,trivial⟩⟩⟩⟩,λ u1 a0=>have WR:=T a0;⟨?_,⟨?_,⟨⟨rfl,⟨rfl,?_⟩⟩,⟨⟨rfl,⟨rfl,?_⟩⟩,⟨⟨rfl,⟨rfl,⟨rfl,?_⟩⟩⟩,λ a1=>⟨⟨rfl,⟨rfl,?_⟩⟩,λ a2=>⟨⟨rfl,⟨rfl,?_⟩⟩,⟨⟨rfl,⟨rfl,?_⟩⟩,⟨⟨rfl,⟨rfl,?_⟩⟩,λ a3=>⟨⟨rfl,⟨rfl,?_⟩⟩,⟨?_,λ a4=>⟨⟨rfl,⟨rfl,?_⟩⟩,⟨⟨rfl,⟨rfl,?_⟩⟩,⟨⟨rfl,⟨rfl,⟨rfl,?_⟩⟩⟩,λ a5=>⟨⟨rfl,⟨rfl,?_⟩⟩,⟨?_,⟨⟨rfl,⟨rfl,?_⟩⟩,λ a6=>⟨⟨rfl,⟨rfl,?_⟩⟩,⟨⟨rfl,⟨rfl,?_⟩⟩,⟨⟨rfl,⟨rfl,?_⟩⟩,λ a7=>⟨⟨rfl,⟨rfl,?_⟩⟩,⟨?_,⟨⟨rfl,⟨rfl,?_⟩⟩,⟨?_,λ a8=>⟨λ a9=>⟨λ dt=>⟨λ dP=>⟨λ a12=>⟨λ dK=>?_,λ dK=>?_⟩,λ a12=>⟨λ dK=>?_,λ dK=>?_⟩⟩,λ dP=>⟨λ a12=>⟨λ dK=>?_,λ dK=>?_⟩,λ a12=>⟨λ dK=>?_,λ dK=>?_⟩⟩⟩,λ dt=>⟨λ dP=>⟨λ a12=>⟨λ dK=>?_,λ dK=>?_⟩,λ a12=>⟨λ dK=>?_,λ dK=>?_⟩⟩,λ dP=>⟨λ a12=>⟨λ dK=>?_,λ dK=>?_⟩,λ a12=>⟨λ dK=>?_,λ dK=>?_⟩⟩⟩⟩,λ a9=>⟨λ dt=>⟨λ dP=>⟨λ a12=>⟨λ dK=>?_,λ dK=>?_⟩,λ a12=>⟨λ dK=>?_,λ dK=>?_⟩⟩,λ dP=>⟨λ a12=>⟨λ dK=>?_,λ dK=>?_⟩,λ a12=>⟨λ dK=>?_,λ dK=>?_⟩⟩⟩,λ dt=>⟨λ dP=>⟨λ a12=>⟨λ dK=>?_,λ dK=>?_⟩,λ a12=>⟨λ dK=>?_,λ dK=>?_⟩⟩,λ dP=>⟨λ a12=>⟨λ dK=>?_,λ dK=>?_⟩,λ a12=>⟨λ dK=>?_,λ dK=>?_⟩⟩⟩⟩⟩⟩⟩⟩⟩⟩⟩⟩⟩⟩⟩⟩⟩⟩⟩⟩⟩⟩⟩⟩⟩⟩⟩⟩⟩⟩
 all_goals try and_intros
 all_goals try simp only[O.eta,bE] at *
 all_goals (try simp only[O.eta,cE,a5U,a5O,a6a,a5M,a5N,a6g,a5Z,a6k,a7m] at *)<;>first|rfl|trivial|omega|with_reducible assumption|exact hp.1|exact hp.2|(simp only[a8P,a5N] at a0;omega)|(have L:=lf J more hp.1 (by with_reducible assumption);have q1:=L.le;have q2:=L.n1;have q3:=L.n2;first|omega|exact L.ok|(simp only[L.e1,L.e2,L.e3,L.w1,L.w2,L.w3,Zb] at *<;>first|rfl|omega|contradiction|(simp_all;done)))
theorem A3:bb.Good vp:=DY ⟨Hd,He,Hf,DF,DG,DI,DH,DK,DN,DL,DM,trivial⟩ trivial trivial trivial
theorem NR{w:World}{S:Nat->Prop}:∀ (xs:List Int) (b o:Nat),dr w S (xs.map (Ty.int IntKind.u8).aK) b o->dT xs
 | [],_,_,_=>λ i h=>by simp at h
 | x::xs,b,o,h=>λ i hi=>by
  obtain⟨⟨cs,_,h1,_⟩,h2⟩:=h
  cases i with
  | zero =>
   have h3:IntKind.u8.min<=x/\x<=IntKind.u8.max:=h1.2
   have e1:IntKind.u8.min=0:=by decide
   have e2:IntKind.u8.max=255:=by decide
   rw[e1,e2] at h3
   exact h3
  | succ i=>simpa using NR xs b _ h2 i (by simpa using hi)
theorem OV{P:Program}{w:World}{S:Nat->Prop}{J:List Int}{x:Value}(h:uJ P w S (.val ⟨.slice (.int .u8),J⟩) x):dT J:=by
 obtain⟨a,cap,_,_,_,_,h5⟩:=(show Rd w S (TV.aK ⟨.slice (.int .u8),J⟩) [x] from h)
 rcases h5 with h5|⟨b,o,_,_,h5⟩
 .have:J=[]:=List.map_eq_nil_iff.1 h5
  subst this
  exact λ i h=>by simp at h
 .exact NR J b o h5
theorem Lb:∀ Ip:List TV,Ip.map TV.τ=[(.slice (.int .u8)),(.slice (.int .u8))]->bD prog lU (Ip.map .val) (·=[⟨.bool,true⟩]):=by
 intro Ip h
 match Ip,h with
 | [⟨t0,a0⟩,⟨t1,a1⟩],h =>
  simp only[a6n,a7C,a5L,a5R] at h
  obtain⟨rfl,rfl⟩:=h
  intro w S cF hS ha
  match cF,ha with
  | [x,y],ha=>exact A3.2 a0 a1 ⟨OV ha.1,OV ha.2.1⟩ w S [x,y] hS ha
end
end Go.Proofs.YtnehkikdlnmebaaGreatDoor

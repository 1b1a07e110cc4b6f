/- VmRdm, VmRds, VmProg, VmPTextP, VmRProg. -/
import Derived.Test.YtaaamahdcpcofaaDoorVmBld
set_option linter.all false
set_option maxRecDepth 4000
set_option maxHeartbeats 4000000
namespace Go.Proofs.YtaaamahdcpcofaaDoor
def a1Y:=@decide_true
def a1V:=@decide_false
def a1I:=@Bool.true_eq_false
def a1J:=@not_true_eq_false
def a1K:=@not_false_eq_true
def a1R:=@false_implies
def a1W:=@true_implies
def a1P:=@decide_eq_false
def a2q:=@Bool.eq_false_or_eq_true
def a3b:=@Bool.and_true
def a2S:=@Bool.and_false
def a2T:=@Bool.false_and
noncomputable section
theorem ZU(t:List UInt8)(a:Nat)(s:List UInt8):(decide (s.length<=(t.drop a).length)&&decide ((t.drop a).take s.length=s))=aE t a s:=rfl
theorem Hz(t:List UInt8)(a:Nat)(s:List UInt8)(h:aE t a s=true):s.length+a<=t.length\/s=[]:=by
 obtain⟨r,hr⟩:=(tp t a s).1 h
 have:=congrArg List.length hr
 simp only[a2H,a1T] at this
 cases s with
 | nil=>exact .inr rfl
 | cons b l=>left;simp only[a1M] at this ⊢;omega
def O(t:List UInt8)(a:Int)(p:List UInt8):Int:=bif aE t a.toNat p then a+(p.length:Int) else a
def ub(t:List UInt8)(a:Int):Int:=bif gv t a.toNat then a+1 else a
def uK(t:List UInt8)(a:Int):Int:=bif gv t a.toNat then ((t.getD a.toNat 0).toNat:Int) - 48 else 0
theorem Yq:IntKind.u8.min=0:=rfl
theorem Yp:IntKind.u8.max=255:=rfl
theorem YC(b:UInt8):0<=(b.toNat:Int)/\(b.toNat:Int)<=255:=by have:=b.toNat_lt;omega
def cB:gj:=⟨o4,[[.d .str, .d (.int .i64)]],[.b 0, .v .str],[[.str,(.int .i64)]],λ (p:List UInt8) (t:List UInt8) (a:Int)=>⟨(some (0<=a/\a<=(t.length:Int)/\t.length<=10000/\p.length<=10/\1<=p.length),[⟨.bool,aE t a.toNat p⟩],[[⟨.str,t⟩,⟨(.int .i64),O t a p⟩]])⟩⟩
def tf(p:List UInt8)(t:List UInt8)(a:Int):Nat->aW:=λ _ => .none
theorem Bb(p:List UInt8)(t:List UInt8)(a:Int):dd (dr [gS] [] [] [] []) (aD gd) (tf p t a) 0 (ij (dr [gS] [] [] [] []) gd [[.d .str, .d (.int .i64)]] λ r ds=>bR r [⟨.bool,aE t a.toNat p⟩]/\jl ds [[⟨.str,t⟩,⟨(.int .i64),O t a p⟩]]) (cv gd [.box 0, .val ⟨.str,p⟩] [[.d .str, .d (.int .i64)]] [[⟨.str,t⟩,⟨(.int .i64),a⟩]]) =
 ((eM a ((t.length:Int)) t.length/\(t.length<=140737488355328 ->
 (ah a ->
 (((!(decide (p.length<=((t.take (Int.toNat ((t.length:Int)))).drop (Int.toNat a)).length)&&decide (((t.take (Int.toNat ((t.length:Int)))).drop (Int.toNat a)).take p.length=p)))=true ->
 (false=(aE t a.toNat p)/\((t=t/\a=(O t a p))/\True)))/\((!(decide (p.length<=((t.take (Int.toNat ((t.length:Int)))).drop (Int.toNat a)).length)&&decide (((t.take (Int.toNat ((t.length:Int)))).drop (Int.toNat a)).take p.length=p)))=false ->
 (ah a ->
 (ah ((p.length:Int)) ->
 (ah (a+((p.length:Int)))/\(true=(aE t a.toNat p)/\((t=t/\(a+((p.length:Int)))=(O t a p))/\True))))))))))):=by kernel_rfl
theorem A5(hE:aR [gS])(hO:ja [])(hM:iu [])(hS:gO []):gj.Good cB:=by
 refine⟨aB sQ rfl (by decide),?_⟩
 show ∀ (p:List UInt8) (t:List UInt8) (a:Int),(0<=a/\a<=(t.length:Int)/\t.length<=10000/\p.length<=10/\1<=p.length)->o5 prog o4 [[.d .str, .d (.int .i64)]] [.box 0, .val ⟨.str,p⟩] [[⟨.str,t⟩,⟨(.int .i64),a⟩]] [⟨.bool,aE t a.toNat p⟩] [[⟨.str,t⟩,⟨(.int .i64),O t a p⟩]]
 intro p t a hp
 refine fm (own:=[]) (wr:=[]) (cl:=[]) (ro:=[]) hE hO hM hS sQ zg (tf p t a) rfl rfl ?_
 rewrite [Bb p t a]
 obtain⟨h1,h2,h3,h4,h5⟩:=hp
 have f0:O t a p=bif aE t a.toNat p then a+(p.length:Int) else a:=rfl
 refine⟨?_,λ a0=>λ a1=>⟨λ a2=>⟨?_,⟨⟨rfl,?_⟩,trivial⟩⟩,λ a2=>λ a3=>λ a4=>⟨?_,⟨?_,⟨⟨rfl,?_⟩,trivial⟩⟩⟩⟩⟩
 all_goals try and_intros
 all_goals first|rfl|trivial|omega|((try simp only[a1Q,a1O,a2k,a2Q,a1F,a1L] at *)<;>(try simp only[a1E,a4W,ZU,aZ,eM,ah] at *)<;>first|with_reducible rfl|omega|(have h1:=Hz _ _ _ (by with_reducible assumption);have h2:p.length<=10:=by omega;omega)|(rw[by with_reducible assumption];done)|(rw[show aE t a.toNat p=_ from by with_reducible assumption];rfl)|simp_all)
theorem lC:gj.Good cB:=A5 ⟨yj,trivial⟩ trivial trivial trivial
def dt:gj:=⟨nM,[[.d .str, .d (.int .i64)]],[.b 0],[[.str,(.int .i64)]],λ (t:List UInt8) (a:Int)=>⟨(some (0<=a/\a<=(t.length:Int)/\t.length<=10000),[⟨(.int .i64),uK t a⟩,⟨.bool,gv t a.toNat⟩],[[⟨.str,t⟩,⟨(.int .i64),ub t a⟩]])⟩⟩
def rN(t:List UInt8)(a:Int):Nat->aW:=λ _ => .none
abbrev qf(t:List UInt8)(a:Int):Prop:=(ah a ->
 (ah (a+(1:Int))/\(ah ((a+(1:Int)) - (1:Int))/\(t.length<=140737488355328 ->
 (ah (a+(1:Int)) ->
 (aZ ((a+(1:Int)) - (1:Int)) t.length/\(dD .u8 ((((t.getD (Int.toNat ((a+(1:Int)) - (1:Int))) 0).toNat:Int)) - (48:Int))/\(ah ((((t.getD (Int.toNat ((a+(1:Int)) - (1:Int))) 0).toNat:Int)) - (48:Int))/\((((((t.getD (Int.toNat ((a+(1:Int)) - (1:Int))) 0).toNat:Int)) - (48:Int))=(uK t a)/\true=(gv t a.toNat))/\((t=t/\(a+(1:Int))=(ub t a))/\True))))))))))
abbrev qg(t:List UInt8)(a:Int):Prop:=(t.length<=140737488355328 ->
 (ah a ->
 (aZ a t.length/\(((decide ((((t.getD (Int.toNat a) 0).toNat:Int))<=(57:Int)))=true ->
 (qf t a))/\((decide ((((t.getD (Int.toNat a) 0).toNat:Int))<=(57:Int)))=false ->
 (((0:Int)=(uK t a)/\false=(gv t a.toNat))/\((t=t/\a=(ub t a))/\True)))))))
abbrev qh(t:List UInt8)(a:Int):Prop:=((false=true ->
 (qf t a))/\(false=false ->
 (((0:Int)=(uK t a)/\false=(gv t a.toNat))/\((t=t/\a=(ub t a))/\True))))
theorem Ai(t:List UInt8)(a:Int):dd (dr [] [] [] [] []) (aD fv) (rN t a) 0 (ij (dr [] [] [] [] []) fv [[.d .str, .d (.int .i64)]] λ r ds=>bR r [⟨(.int .i64),uK t a⟩,⟨.bool,gv t a.toNat⟩]/\jl ds [[⟨.str,t⟩,⟨(.int .i64),ub t a⟩]]) (cv fv [.box 0] [[.d .str, .d (.int .i64)]] [[⟨.str,t⟩,⟨(.int .i64),a⟩]]) =
 ((((decide (a<((t.length:Int))))=true ->
 (aZ a t.length/\(((decide ((48:Int)<=(((t.getD (Int.toNat a) 0).toNat:Int))))=true ->
 (ah a ->
 (t.length<=140737488355328 ->
 (ah ((t.length:Int)) ->
 (t.length<=140737488355328 ->
 (ah a ->
 (qg t a)))))))/\((decide ((48:Int)<=(((t.getD (Int.toNat a) 0).toNat:Int))))=(!true) ->
 (ah a ->
 (t.length<=140737488355328 ->
 (ah ((t.length:Int)) ->
 (t.length<=140737488355328 ->
 (ah a ->
 (qh t a))))))))))/\((decide (a<((t.length:Int))))=(!true) ->
 ((false=true ->
 (ah a ->
 (t.length<=140737488355328 ->
 (ah ((t.length:Int)) ->
 (qg t a)))))/\(false=(!true) ->
 (ah a ->
 (t.length<=140737488355328 ->
 (ah ((t.length:Int)) ->
 (qh t a))))))))):=by kernel_rfl
theorem zT(hE:aR [])(hO:ja [])(hM:iu [])(hS:gO []):gj.Good dt:=by
 refine⟨aB rI rfl (by decide),?_⟩
 show ∀ (t:List UInt8) (a:Int),(0<=a/\a<=(t.length:Int)/\t.length<=10000)->o5 prog nM [[.d .str, .d (.int .i64)]] [.box 0] [[⟨.str,t⟩,⟨(.int .i64),a⟩]] [⟨(.int .i64),uK t a⟩,⟨.bool,gv t a.toNat⟩] [[⟨.str,t⟩,⟨(.int .i64),ub t a⟩]]
 intro t a hp
 refine fm (own:=[]) (wr:=[]) (cl:=[]) (ro:=[]) hE hO hM hS rI x7 (rN t a) rfl rfl ?_
 rewrite [Ai t a]
 obtain⟨h1,h2,h3⟩:=hp
 have f1:=YC (t.getD a.toNat 0)
 have f3:ub t a=bif gv t a.toNat then a+1 else a:=rfl
 have f4:uK t a=bif gv t a.toNat then ((t.getD a.toNat 0).toNat:Int) - 48 else 0:=rfl
 have f2:gv t a.toNat=(decide (a.toNat<t.length)&&decide (48<=(t.getD a.toNat 0).toNat)&&decide ((t.getD a.toNat 0).toNat<=57)):=rfl
 refine⟨λ a0=>⟨?_,⟨λ a1=>λ a2=>λ a3=>λ a4=>λ a5=>λ a6=>λ a7=>λ a8=>⟨?_,⟨λ a9=>λ gl=>⟨?_,⟨?_,λ jn=>λ a12=>⟨?_,⟨?_,⟨?_,⟨⟨?_,?_⟩,⟨⟨rfl,?_⟩,trivial⟩⟩⟩⟩⟩⟩⟩,λ a9=>⟨⟨?_,?_⟩,⟨⟨rfl,?_⟩,trivial⟩⟩⟩⟩,λ a1=>λ a2=>λ a3=>λ a4=>λ a5=>λ a6=>⟨λ a7=>λ a8=>⟨?_,⟨?_,λ a9=>λ gl=>⟨?_,⟨?_,⟨?_,⟨⟨?_,?_⟩,⟨⟨rfl,?_⟩,trivial⟩⟩⟩⟩⟩⟩⟩,λ a7=>⟨⟨?_,?_⟩,⟨⟨rfl,?_⟩,trivial⟩⟩⟩⟩⟩,λ a0=>⟨λ a1=>λ a2=>λ a3=>λ a4=>λ a5=>λ a6=>⟨?_,⟨λ a7=>λ a8=>⟨?_,⟨?_,λ a9=>λ gl=>⟨?_,⟨?_,⟨?_,⟨⟨?_,?_⟩,⟨⟨rfl,?_⟩,trivial⟩⟩⟩⟩⟩⟩⟩,λ a7=>⟨⟨?_,?_⟩,⟨⟨rfl,?_⟩,trivial⟩⟩⟩⟩,λ a1=>λ a2=>λ a3=>λ a4=>⟨λ a5=>λ a6=>⟨?_,⟨?_,λ a7=>λ a8=>⟨?_,⟨?_,⟨?_,⟨⟨?_,?_⟩,⟨⟨rfl,?_⟩,trivial⟩⟩⟩⟩⟩⟩⟩,λ a5=>⟨⟨?_,?_⟩,⟨⟨rfl,?_⟩,trivial⟩⟩⟩⟩⟩
 all_goals try and_intros
 all_goals first|rfl|trivial|omega|(simp only[decide_eq_true_eq,decide_eq_false_iff_not,aZ,ah,Yq,Yp] at *;first|omega|grind [gv])|grind [gv,Yq,Yp]
theorem pn:gj.Good dt:=zT trivial trivial trivial trivial
def nE(t:List UInt8)(a:Int):Nat:=dO 126 (t.drop a.toNat)
def rE(t:List UInt8)(d a:Int):RI:=dU t (d+1).toNat (a.toNat+nE t a)
def mE(t:List UInt8)(d a:Int):Nat:=dO 42 (t.drop (rE t d a).a)
def xE(t:List UInt8)(d a:Int):RI:=lT (dU t (d+1).toNat) t a.toNat
theorem S9(c:UInt8):∀ l:List UInt8,dO c l<=l.length
 | []=>a2u _
 | b::l=>by
  have:=S9 c l
  unfold dO
  split<;>simp<;>omega
theorem CF(c:UInt8)(t:List UInt8)(a:Nat)(h:a<=t.length):a+dO c (t.drop a)<=t.length:=by
 have:=S9 c (t.drop a)
 simp only[a2H] at this;omega
theorem mh(t:List UInt8)(a:Nat)(c:UInt8)(s:List UInt8)(h:aE t a (c::s)=true):a+(c::s).length<=t.length:=by
 rcases Hz t a _ h with g|g
 .omega
 .cases g
theorem NO(core:Nat->RI)(t:List UInt8)(hc:∀ a,a<=t.length->(core a).a<=t.length)(a:Nat)(h:a<=t.length):(lT core t a).a<=t.length:=by
 have h1:=CF 126 t a h
 have h2:=hc _ h1
 have h3:=CF 42 t _ h2
 unfold lT
 split
 .exact h1
 .split
  .show (core (a+dO 126 (t.drop a))).a+42<=t.length
   omega
  .exact h3
theorem N8(k:Int)(t:List UInt8)(a:Nat)(h:a<=t.length):(r9 k t a).a<=t.length:=by
 unfold r9
 cases e:gv t a
 .exact h
 .simp only[gv,a1z,a1F] at e
  show a+1<=t.length
  omega
theorem Oj(k:Int)(t:List UInt8)(x y:RI)(h:y.a<=t.length):(rB k t x y).a<=t.length:=by
 unfold rB
 cases e:x.ok&&y.ok&&aE t y.a [41]
 .exact h
 .simp only[a1z] at e
  have:=mh t _ 41 [] e.2
  simpa using this
theorem H4(t:List UInt8):∀ (D a:Nat),a<=t.length->(dU t D a).a<=t.length
 | 0,a,h=>h
 | D+1,a,h=>by
  have hx:∀ a,a<=t.length->(lT (dU t D) t a).a<=t.length:=NO (dU t D) t (H4 t D)
  unfold dU
  split
  .rename_i e;exact mh t a 48 [] e
  .split
   .rename_i e;exact mh t a 49 [] e
   .split
    .rename_i e;exact N8 3 t _ (mh t a 116 [] e)
    .split
     .rename_i e;exact N8 4 t _ (mh t a 97 [] e)
     .split
      .exact h
      .rename_i e
       have e':aE t a [40]=true:=by simpa using e
       have h1:=hx _ (mh t a 40 [] e')
       split
       .rename_i e2;exact Oj 6 t _ _ (hx _ (mh t _ 32 [43,32] e2))
       .split
        .rename_i e2;exact Oj 7 t _ _ (hx _ (mh t _ 32 [] e2))
        .exact h1
theorem CA(t:List UInt8)(d a:Int)(h0:0<=a)(h:a<=(t.length:Int)):((xE t d a).a:Int)<=(t.length:Int):=by
 have:=NO (dU t (d+1).toNat) t (H4 t _) a.toNat (by omega)
 unfold xE;omega
theorem kf(t:List UInt8)(a:Int)(p:List UInt8)(h0:0<=a):0<=O t a p:=by
 unfold O;cases aE t a.toNat p<;>simp<;>omega
theorem kg(t:List UInt8)(a:Int)(p:List UInt8)(h0:0<=a)(h:a<=(t.length:Int)):O t a p<=(t.length:Int):=by
 unfold O
 cases e:aE t a.toNat p
 .exact h
 .rcases Hz t _ p e with g|g
  .simp only[a2R];omega
  .subst g;simpa using h
theorem CG(t:List UInt8)(a:Int)(h0:0<=a):0<=ub t a:=by
 unfold ub;cases gv t a.toNat<;>simp<;>omega
theorem Ge(t:List UInt8)(a:Int)(h0:0<=a)(h:a<=(t.length:Int)):ub t a<=(t.length:Int):=by
 unfold ub
 cases e:gv t a.toNat
 .exact h
 .simp only[gv,a1z,a1F] at e
  simp only[a2R];omega
theorem RQ(t:List UInt8)(d a:Int)(h:d<0)(ha:0<=a):(dU t (d+1).toNat a.toNat).e=zX/\(dU t (d+1).toNat a.toNat).ok=false/\((dU t (d+1).toNat a.toNat).a:Int)=a:=by
 rw[show (d+1).toNat=0 by omega]
 exact⟨rfl,rfl,by show ((a.toNat:Nat):Int)=a;omega⟩
theorem ye(t:List UInt8)(d a:Int)(h:¬ d<0)(ha:0<=a):dU t (d+1).toNat a.toNat =
  if aE t a.toNat [48]=true then ⟨M.mk 1 0 [],true,a.toNat+1⟩ else if aE t a.toNat [49]=true then ⟨M.mk 2 0 [],true,a.toNat+1⟩ else
  if aE t a.toNat [116]=true then r9 3 t (a+1).toNat else if aE t a.toNat [97]=true then r9 4 t (a+1).toNat else if aE t a.toNat [40]=false then ⟨zX,false,a.toNat⟩ else
  if aE t (xE t (d - 1) (a+1)).a [32,43,32]=true then rB 6 t (xE t (d - 1) (a+1)) (xE t (d - 1) (((xE t (d - 1) (a+1)).a:Int)+3)) else
  if aE t (xE t (d - 1) (a+1)).a [32]=true then rB 7 t (xE t (d - 1) (a+1)) (xE t (d - 1) (((xE t (d - 1) (a+1)).a:Int)+1)) else
  ⟨zX,false,(xE t (d - 1) (a+1)).a⟩:=by
 obtain⟨D,hD⟩:∃ D:Nat,d=(D:Int):=⟨d.toNat,by omega⟩
 subst hD
 have e1:((D:Int)+1).toNat=D+1:=by omega
 have e2:((D:Int) - 1+1).toNat=D:=by omega
 have e3:(a+1).toNat=a.toNat+1:=by omega
 have e4:∀ n:Nat,((n:Int)+3).toNat=n+3:=λ n=>by omega
 have e5:∀ n:Nat,((n:Int)+1).toNat=n+1:=λ n=>by omega
 unfold xE
 rw[e1,e2,e3]
 simp only[e4,e5]
 rw[dU]
theorem pW(t:List UInt8)(a:Int)(p:List UInt8)(h:aE t a.toNat p=false):O t a p=a:=by unfold O;rw[h];rfl
theorem uq(t:List UInt8)(a:Int)(c:UInt8)(h:aE t a.toNat [c]=true):O t a [c]=a+1:=by unfold O;rw[h];rfl
theorem XM(t:List UInt8)(a:Int)(c d e:UInt8)(h:aE t a.toNat [c,d,e]=true):O t a [c,d,e]=a+3:=by unfold O;rw[h];rfl
theorem Uc(k:Int)(t:List UInt8)(a:Int)(h:0<=a):r9 k t a.toNat=⟨M.mk k (uK t a) [],gv t a.toNat,(ub t a).toNat⟩:=by
 unfold r9 uK ub
 cases gv t a.toNat
 .rfl
 .simp only[a2R,RI.mk.injEq,a1Z];omega
theorem Re(k:Int)(t:List UInt8)(x y:RI):(rB k t x y).e=M.mk k 0 [x.e,y.e]:=by unfold rB;cases x.ok&&y.ok&&aE t y.a [41]<;>rfl
theorem Ok(k:Int)(t:List UInt8)(x y:RI):(rB k t x y).ok=(x.ok&&y.ok&&aE t y.a [41]):=by unfold rB;cases x.ok&&y.ok&&aE t y.a [41]<;>rfl
theorem Rb(k:Int)(t:List UInt8)(x y:RI):((rB k t x y).a:Int)=bif x.ok&&y.ok then O t (y.a:Int) [41] else (y.a:Int):=by
 unfold rB O
 rw[a1E]
 cases x.ok<;>cases y.ok<;>cases aE t y.a [41]<;>rfl
theorem QX(k:Int)(t:List UInt8)(a:Int)(h:0<=a):(r9 k t (a+1).toNat).e=M.mk k (uK t (a+1)) []/\(r9 k t (a+1).toNat).ok=gv t (a+1).toNat/\((r9 k t (a+1).toNat).a:Int)=ub t (a+1):=by
 rw[Uc k t (a+1) (by omega)]
 have:=CG t (a+1) (by omega)
 exact⟨rfl,rfl,by show ((ub t (a+1)).toNat:Int)=_;omega⟩
theorem NG(c:UInt8):∀ (l:List UInt8) (k:Nat),k<=dO c l->(k<dO c l↔∃ r,l.drop k=c::r)
 | [],k,h=>by simp[dO]
 | b::l,k,h=>by
  unfold dO at h ⊢
  split at h
  .rename_i e
   rw[a1S e]
   cases k with
   | zero=>exact⟨λ _=>⟨l,by rw[e];rfl⟩,λ _=>by omega⟩
   | succ k =>
    have:=NG c l k (by omega)
    rw[a4q,<-this];omega
  .rename_i e
   rw[a1B e]
   have hk:k=0:=by omega
   subst hk
   refine⟨λ h=>by omega,λ ⟨r,hr⟩=>?_⟩
   simp only[a3Q,a1C] at hr
   exact absurd hr.1 e
theorem TA(t:List UInt8)(n k:Nat)(c:UInt8)(h:k<=dO c (t.drop n)):aE t (n+k) [c]=decide (k<dO c (t.drop n)):=by
 have h1:=NG c (t.drop n) k h
 rw[a3n] at h1
 rw[a4r,a1F,h1,tp]
 exact⟨λ ⟨r,hr⟩=>⟨r,hr⟩,λ ⟨r,hr⟩=>⟨r,hr⟩⟩
theorem ZW(t:List UInt8)(a:Int)(k:Nat)(ha:0<=a)(h:k<=nE t a):aE t (a+(k:Int)).toNat [126]=decide (k<nE t a):=by
 rw[show (a+(k:Int)).toNat=a.toNat+k by omega];exact TA t a.toNat k 126 h
theorem ZV(t:List UInt8)(d a:Int)(k:Nat)(h:k<=mE t d a):aE t (((rE t d a).a:Int)+(k:Int)).toNat [42]=decide (k<mE t d a):=by
 rw[show (((rE t d a).a:Int)+(k:Int)).toNat=(rE t d a).a+k by omega];exact TA t _ k 42 h
theorem Wn(t:List UInt8)(a:Int)(h0:0<=a)(h:a<=(t.length:Int)):a+(nE t a:Int)<=(t.length:Int):=by
 have:=CF 126 t a.toNat (by omega)
 unfold nE;omega
theorem ZP(t:List UInt8)(d a:Int)(h0:0<=a)(h:a<=(t.length:Int)):((rE t d a).a:Int)+(mE t d a:Int)<=(t.length:Int):=by
 have h1:=Wn t a h0 h
 have h2:=H4 t (d+1).toNat (a.toNat+nE t a) (by omega)
 have h3:=CF 42 t _ h2
 have:(rE t d a).a+mE t d a<=t.length:=h3
 omega
theorem WA(t:List UInt8)(d a:Int)(ha:0<=a):dU t (d+1).toNat (a+(nE t a:Int)).toNat=rE t d a:=by
 rw[show (a+(nE t a:Int)).toNat=a.toNat+nE t a by omega];rfl
theorem S2(t:List UInt8)(d a:Int):xE t d a=if 40<nE t a then ⟨zX,false,a.toNat+nE t a⟩ else if 41<mE t d a then ⟨zX,false,(rE t d a).a+42⟩ else
  ⟨aP 8 (mE t d a) (aP 5 (nE t a) (rE t d a).e),(rE t d a).ok,(rE t d a).a+mE t d a⟩:=rfl
theorem WN(t:List UInt8)(d a:Int)(ha:0<=a)(h:40<nE t a):(xE t d a).e=zX/\(xE t d a).ok=false/\((xE t d a).a:Int)=a+(nE t a:Int):=by
 rw[S2,a1S h]
 exact⟨rfl,rfl,by show ((a.toNat+nE t a:Nat):Int)=_;omega⟩
theorem UI(t:List UInt8)(d a:Int)(h:¬ 40<nE t a)(h2:41<mE t d a):(xE t d a).e=zX/\(xE t d a).ok=false/\((xE t d a).a:Int)=((rE t d a).a:Int)+42:=by
 rw[S2,a1B h,a1S h2]
 exact⟨rfl,rfl,rfl⟩
theorem WM(t:List UInt8)(d a:Int)(h:¬ 40<nE t a)(h2:¬ 41<mE t d a):(xE t d a).e=aP 8 (mE t d a) (aP 5 (nE t a) (rE t d a).e)/\(xE t d a).ok=(rE t d a).ok/\((xE t d a).a:Int)=((rE t d a).a:Int)+(mE t d a:Int):=by
 rw[S2,a1B h,a1B h2]
 exact⟨rfl,rfl,rfl⟩
structure Pr(r:RI)(e:M)(ok:Bool)(a:Int):Prop where
 e:r.e=e
 ok:r.ok=ok
 a:(r.a:Int)=a
def di(t:List UInt8)(d a:Int):RI:=dU t (d+1).toNat a.toNat
theorem W0(t:List UInt8)(d a:Int)(h:d<0)(ha:0<=a):Pr (di t d a) zX false a:=by
 obtain⟨h1,h2,h3⟩:=RQ t d a h ha
 exact⟨h1,h2,h3⟩
theorem Z8(t:List UInt8)(d a:Int)(h:¬ d<0)(ha:0<=a)(h1:aE t a.toNat [48]=true):Pr (di t d a) (M.mk 1 0 []) true (a+1):=by
 unfold di;rw[ye t d a h ha,if_pos h1]
 exact⟨rfl,rfl,by show ((a.toNat+1:Nat):Int)=_;omega⟩
theorem a0a(t:List UInt8)(d a:Int)(h:¬ d<0)(ha:0<=a)(h1:aE t a.toNat [48]=false)(h2:aE t a.toNat [49]=true):Pr (di t d a) (M.mk 2 0 []) true (a+1):=by
 unfold di;rw[ye t d a h ha,if_neg (by rw[h1];decide),if_pos h2]
 exact⟨rfl,rfl,by show ((a.toNat+1:Nat):Int)=_;omega⟩
theorem YE(t:List UInt8)(d a:Int)(h:¬ d<0)(ha:0<=a)(h1:aE t a.toNat [48]=false)(h2:aE t a.toNat [49]=false)(h3:aE t a.toNat [116]=true):Pr (di t d a) (M.mk 3 (uK t (a+1)) []) (gv t (a+1).toNat) (ub t (a+1)):=by
 unfold di;rw[ye t d a h ha,if_neg (by rw[h1];decide),if_neg (by rw[h2];decide),if_pos h3]
 obtain⟨g1,g2,g3⟩:=QX 3 t a ha
 exact⟨g1,g2,g3⟩
theorem a0b(t:List UInt8)(d a:Int)(h:¬ d<0)(ha:0<=a)(h1:aE t a.toNat [48]=false)(h2:aE t a.toNat [49]=false)(h3:aE t a.toNat [116]=false)(h4:aE t a.toNat [97]=true):Pr (di t d a) (M.mk 4 (uK t (a+1)) []) (gv t (a+1).toNat) (ub t (a+1)):=by
 unfold di;rw[ye t d a h ha,if_neg (by rw[h1];decide),if_neg (by rw[h2];decide),if_neg (by rw[h3];decide),if_pos h4]
 obtain⟨g1,g2,g3⟩:=QX 4 t a ha
 exact⟨g1,g2,g3⟩
theorem a0c(t:List UInt8)(d a:Int)(h:¬ d<0)(ha:0<=a)(h1:aE t a.toNat [48]=false)(h2:aE t a.toNat [49]=false)(h3:aE t a.toNat [116]=false)(h4:aE t a.toNat [97]=false)(h5:aE t a.toNat [40]=false):Pr (di t d a) zX false a:=by
 unfold di;rw[ye t d a h ha,if_neg (by rw[h1];decide),if_neg (by rw[h2];decide),if_neg (by rw[h3];decide),if_neg (by rw[h4];decide),if_pos h5]
 exact⟨rfl,rfl,by show ((a.toNat:Nat):Int)=_;omega⟩
def Uq(t:List UInt8)(x y:RI):Int:=bif x.ok&&y.ok then O t (y.a:Int) [41] else (y.a:Int)
theorem KH(t:List UInt8)(x y:RI)(h:x.ok=false\/y.ok=false):Uq t x y=(y.a:Int):=by unfold Uq;rcases h with h|h<;>rw[h]<;>simp
theorem Tp(t:List UInt8)(x y:RI)(h:x.ok=true)(h':y.ok=true):Uq t x y=O t (y.a:Int) [41]:=by unfold Uq;rw[h,h'];rfl
theorem Z7(t:List UInt8)(d a:Int)(h:¬ d<0)(ha:0<=a)(h1:aE t a.toNat [48]=false)(h2:aE t a.toNat [49]=false)(h3:aE t a.toNat [116]=false)(h4:aE t a.toNat [97]=false)(h5:aE t a.toNat [40]=true)(X:RI)(hX:X=xE t (d - 1) (a+1)) :
  (aE t X.a [32,43,32]=true->Pr (di t d a) (M.mk 6 0 [X.e,(xE t (d - 1) ((X.a:Int)+3)).e]) (X.ok&&(xE t (d - 1) ((X.a:Int)+3)).ok&&aE t (xE t (d - 1) ((X.a:Int)+3)).a [41]) (Uq t X (xE t (d - 1) ((X.a:Int)+3)))) /\
  (aE t X.a [32,43,32]=false->aE t X.a [32]=true->Pr (di t d a) (M.mk 7 0 [X.e,(xE t (d - 1) ((X.a:Int)+1)).e]) (X.ok&&(xE t (d - 1) ((X.a:Int)+1)).ok&&aE t (xE t (d - 1) ((X.a:Int)+1)).a [41]) (Uq t X (xE t (d - 1) ((X.a:Int)+1)))) /\
  (aE t X.a [32,43,32]=false->aE t X.a [32]=false->Pr (di t d a) zX false (X.a:Int)):=by
 unfold di;rw[ye t d a h ha,if_neg (by rw[h1];decide),if_neg (by rw[h2];decide),if_neg (by rw[h3];decide),if_neg (by rw[h4];decide),if_neg (by rw[h5];decide),<-hX]
 refine⟨λ e=>?_,λ e e'=>?_,λ e e'=>?_⟩
 .rw[a1S e];exact⟨Re _ _ _ _,Ok _ _ _ _,Rb _ _ _ _⟩
 .rw[a1B (by rw[e];decide),a1S e'];exact⟨Re _ _ _ _,Ok _ _ _ _,Rb _ _ _ _⟩
 .rw[a1B (by rw[e];decide),a1B (by rw[e'];decide)];exact⟨rfl,rfl,rfl⟩
def gC(n:Nat):gj:=⟨oZ,[[.d .str, .d (.int .i64)]],[.b 0, .v (.int .i64)],[[.str,(.int .i64)]],λ (d:Int) (t:List UInt8) (a:Int)=>⟨(some (2 * (d+1).toNat<n/\0<=a/\a<=(t.length:Int)/\t.length<=10000 /\ -1<=d/\d<=40),[⟨(.st .expr),(di t d a).e⟩,⟨.bool,(di t d a).ok⟩],[[⟨.str,t⟩,⟨(.int .i64),((di t d a).a:Int)⟩]])⟩⟩
def gD(n:Nat):gj:=⟨kE,[[.d .str, .d (.int .i64)]],[.b 0, .v (.int .i64)],[[.str,(.int .i64)]],λ (d:Int) (t:List UInt8) (a:Int)=>⟨(some (2 * (d+1).toNat+1<n/\0<=a/\a<=(t.length:Int)/\t.length<=10000 /\ -1<=d/\d<=40),[⟨(.st .expr),(xE t d a).e⟩,⟨.bool,(xE t d a).ok⟩],[[⟨.str,t⟩,⟨(.int .i64),((xE t d a).a:Int)⟩]])⟩⟩
def jY:gj:=⟨kE,[[.d .str, .d (.int .i64)]],[.b 0, .v (.int .i64)],[[.str,(.int .i64)]],λ (d:Int) (t:List UInt8) (a:Int)=>⟨(some (0<=a/\a<=(t.length:Int)/\t.length<=10000 /\ -1<=d/\d<=40),[⟨(.st .expr),(xE t d a).e⟩,⟨.bool,(xE t d a).ok⟩],[[⟨.str,t⟩,⟨(.int .i64),((xE t d a).a:Int)⟩]])⟩⟩
def tc(d:Int)(t:List UInt8)(a:Int):Nat->aW:=λ _ => .none
theorem A8(n:Nat)(d:Int)(t:List UInt8)(a:Int):dd (dr [] [pg,iI] [] [22,26,36,47,57,70,76,77] [] [] [] [cB,dt,gD n]) (aD fZ) (tc d t a) 0 (ij (dr [] [pg,iI] [] [22,26,36,47,57,70,76,77] [] [] [] [cB,dt,gD n]) fZ [[.d .str, .d (.int .i64)]] λ r ds=>bR r [⟨(.st .expr),(di t d a).e⟩,⟨.bool,(di t d a).ok⟩]/\jl ds [[⟨.str,t⟩,⟨(.int .i64),((di t d a).a:Int)⟩]]) (cv fZ [.box 0, .val ⟨(.int .i64),d⟩] [[.d .str, .d (.int .i64)]] [[⟨.str,t⟩,⟨(.int .i64),a⟩]]) =
 ((((decide (d<(0:Int)))=true ->
 ((zE=((di t d a).e)/\false=((di t d a).ok))/\((t=t/\a=((di t d a).a:Int))/\True)))/\((decide (d<(0:Int)))=false ->
 ((0<=a/\a<=(t.length:Int)/\t.length<=10000/\([48]).length<=10/\1<=([48]).length)/\(((aE t a.toNat ([48]))=true ->
 (((bH (M.mk (1:Int) (0:Int) []))=((di t d a).e)/\true=((di t d a).ok))/\((t=t/\(O t a ([48]))=((di t d a).a:Int))/\True)))/\((aE t a.toNat ([48]))=false ->
 ((0<=(O t a ([48]))/\(O t a ([48]))<=(t.length:Int)/\t.length<=10000/\([49]).length<=10/\1<=([49]).length)/\(((aE t (O t a ([48])).toNat ([49]))=true ->
 (((bH (M.mk (2:Int) (0:Int) []))=((di t d a).e)/\true=((di t d a).ok))/\((t=t/\(O t (O t a ([48])) ([49]))=((di t d a).a:Int))/\True)))/\((aE t (O t a ([48])).toNat ([49]))=false ->
 ((0<=(O t (O t a ([48])) ([49]))/\(O t (O t a ([48])) ([49]))<=(t.length:Int)/\t.length<=10000/\([116]).length<=10/\1<=([116]).length)/\(((aE t (O t (O t a ([48])) ([49])).toNat ([116]))=true ->
 ((0<=(O t (O t (O t a ([48])) ([49])) ([116]))/\(O t (O t (O t a ([48])) ([49])) ([116]))<=(t.length:Int)/\t.length<=10000)/\(ah (uK t (O t (O t (O t a ([48])) ([49])) ([116]))) ->
 (((bH (M.mk (3:Int) (uK t (O t (O t (O t a ([48])) ([49])) ([116]))) []))=((di t d a).e)/\(gv t (O t (O t (O t a ([48])) ([49])) ([116])).toNat)=((di t d a).ok))/\((t=t/\(ub t (O t (O t (O t a ([48])) ([49])) ([116])))=((di t d a).a:Int))/\True)))))/\((aE t (O t (O t a ([48])) ([49])).toNat ([116]))=false ->
 ((0<=(O t (O t (O t a ([48])) ([49])) ([116]))/\(O t (O t (O t a ([48])) ([49])) ([116]))<=(t.length:Int)/\t.length<=10000/\([97]).length<=10/\1<=([97]).length)/\(((aE t (O t (O t (O t a ([48])) ([49])) ([116])).toNat ([97]))=true ->
 ((0<=(O t (O t (O t (O t a ([48])) ([49])) ([116])) ([97]))/\(O t (O t (O t (O t a ([48])) ([49])) ([116])) ([97]))<=(t.length:Int)/\t.length<=10000)/\(ah (uK t (O t (O t (O t (O t a ([48])) ([49])) ([116])) ([97]))) ->
 (((bH (M.mk (4:Int) (uK t (O t (O t (O t (O t a ([48])) ([49])) ([116])) ([97]))) []))=((di t d a).e)/\(gv t (O t (O t (O t (O t a ([48])) ([49])) ([116])) ([97])).toNat)=((di t d a).ok))/\((t=t/\(ub t (O t (O t (O t (O t a ([48])) ([49])) ([116])) ([97])))=((di t d a).a:Int))/\True)))))/\((aE t (O t (O t (O t a ([48])) ([49])) ([116])).toNat ([97]))=false ->
 ((0<=(O t (O t (O t (O t a ([48])) ([49])) ([116])) ([97]))/\(O t (O t (O t (O t a ([48])) ([49])) ([116])) ([97]))<=(t.length:Int)/\t.length<=10000/\([40]).length<=10/\1<=([40]).length)/\(((!(aE t (O t (O t (O t (O t a ([48])) ([49])) ([116])) ([97])).toNat ([40])))=true ->
 ((zE=((di t d a).e)/\false=((di t d a).ok))/\((t=t/\(O t (O t (O t (O t (O t a ([48])) ([49])) ([116])) ([97])) ([40]))=((di t d a).a:Int))/\True)))/\((!(aE t (O t (O t (O t (O t a ([48])) ([49])) ([116])) ([97])).toNat ([40])))=false ->
 (ah (d - (1:Int))/\((2 * ((d - (1:Int))+1).toNat+1<n/\0<=(O t (O t (O t (O t (O t a ([48])) ([49])) ([116])) ([97])) ([40]))/\(O t (O t (O t (O t (O t a ([48])) ([49])) ([116])) ([97])) ([40]))<=(t.length:Int)/\t.length<=10000 /\ -1<=(d - (1:Int))/\(d - (1:Int))<=40)/\((0<=(((xE t (d - (1:Int)) (O t (O t (O t (O t (O t a ([48])) ([49])) ([116])) ([97])) ([40]))).a:Int))/\(((xE t (d - (1:Int)) (O t (O t (O t (O t (O t a ([48])) ([49])) ([116])) ([97])) ([40]))).a:Int))<=(t.length:Int)/\t.length<=10000/\([32,43,32]).length<=10/\1<=([32,43,32]).length)/\(((aE t (((xE t (d - (1:Int)) (O t (O t (O t (O t (O t a ([48])) ([49])) ([116])) ([97])) ([40]))).a:Int)).toNat ([32,43,32]))=true ->
 (ah (d - (1:Int))/\((2 * ((d - (1:Int))+1).toNat+1<n/\0<=(O t (((xE t (d - (1:Int)) (O t (O t (O t (O t (O t a ([48])) ([49])) ([116])) ([97])) ([40]))).a:Int)) ([32,43,32]))/\(O t (((xE t (d - (1:Int)) (O t (O t (O t (O t (O t a ([48])) ([49])) ([116])) ([97])) ([40]))).a:Int)) ([32,43,32]))<=(t.length:Int)/\t.length<=10000 /\ -1<=(d - (1:Int))/\(d - (1:Int))<=40)/\((((xE t (d - (1:Int)) (O t (O t (O t (O t (O t a ([48])) ([49])) ([116])) ([97])) ([40]))).ok)=true ->
 ((((xE t (d - (1:Int)) (O t (((xE t (d - (1:Int)) (O t (O t (O t (O t (O t a ([48])) ([49])) ([116])) ([97])) ([40]))).a:Int)) ([32,43,32]))).ok)=true ->
 ((0<=(((xE t (d - (1:Int)) (O t (((xE t (d - (1:Int)) (O t (O t (O t (O t (O t a ([48])) ([49])) ([116])) ([97])) ([40]))).a:Int)) ([32,43,32]))).a:Int))/\(((xE t (d - (1:Int)) (O t (((xE t (d - (1:Int)) (O t (O t (O t (O t (O t a ([48])) ([49])) ([116])) ([97])) ([40]))).a:Int)) ([32,43,32]))).a:Int))<=(t.length:Int)/\t.length<=10000/\([41]).length<=10/\1<=([41]).length)/\(((bH (M.mk (6:Int) 0 ([(bH ((xE t (d - (1:Int)) (O t (O t (O t (O t (O t a ([48])) ([49])) ([116])) ([97])) ([40]))).e)),(bH ((xE t (d - (1:Int)) (O t (((xE t (d - (1:Int)) (O t (O t (O t (O t (O t a ([48])) ([49])) ([116])) ([97])) ([40]))).a:Int)) ([32,43,32]))).e))])))=((di t d a).e)/\(aE t (((xE t (d - (1:Int)) (O t (((xE t (d - (1:Int)) (O t (O t (O t (O t (O t a ([48])) ([49])) ([116])) ([97])) ([40]))).a:Int)) ([32,43,32]))).a:Int)).toNat ([41]))=((di t d a).ok))/\((t=t/\(O t (((xE t (d - (1:Int)) (O t (((xE t (d - (1:Int)) (O t (O t (O t (O t (O t a ([48])) ([49])) ([116])) ([97])) ([40]))).a:Int)) ([32,43,32]))).a:Int)) ([41]))=((di t d a).a:Int))/\True))))/\(((xE t (d - (1:Int)) (O t (((xE t (d - (1:Int)) (O t (O t (O t (O t (O t a ([48])) ([49])) ([116])) ([97])) ([40]))).a:Int)) ([32,43,32]))).ok)=(!true) ->
 (((bH (M.mk (6:Int) 0 ([(bH ((xE t (d - (1:Int)) (O t (O t (O t (O t (O t a ([48])) ([49])) ([116])) ([97])) ([40]))).e)),(bH ((xE t (d - (1:Int)) (O t (((xE t (d - (1:Int)) (O t (O t (O t (O t (O t a ([48])) ([49])) ([116])) ([97])) ([40]))).a:Int)) ([32,43,32]))).e))])))=((di t d a).e)/\false=((di t d a).ok))/\((t=t/\(((xE t (d - (1:Int)) (O t (((xE t (d - (1:Int)) (O t (O t (O t (O t (O t a ([48])) ([49])) ([116])) ([97])) ([40]))).a:Int)) ([32,43,32]))).a:Int))=((di t d a).a:Int))/\True)))))/\(((xE t (d - (1:Int)) (O t (O t (O t (O t (O t a ([48])) ([49])) ([116])) ([97])) ([40]))).ok)=(!true) ->
 ((false=true ->
 ((0<=(((xE t (d - (1:Int)) (O t (((xE t (d - (1:Int)) (O t (O t (O t (O t (O t a ([48])) ([49])) ([116])) ([97])) ([40]))).a:Int)) ([32,43,32]))).a:Int))/\(((xE t (d - (1:Int)) (O t (((xE t (d - (1:Int)) (O t (O t (O t (O t (O t a ([48])) ([49])) ([116])) ([97])) ([40]))).a:Int)) ([32,43,32]))).a:Int))<=(t.length:Int)/\t.length<=10000/\([41]).length<=10/\1<=([41]).length)/\(((bH (M.mk (6:Int) 0 ([(bH ((xE t (d - (1:Int)) (O t (O t (O t (O t (O t a ([48])) ([49])) ([116])) ([97])) ([40]))).e)),(bH ((xE t (d - (1:Int)) (O t (((xE t (d - (1:Int)) (O t (O t (O t (O t (O t a ([48])) ([49])) ([116])) ([97])) ([40]))).a:Int)) ([32,43,32]))).e))])))=((di t d a).e)/\(aE t (((xE t (d - (1:Int)) (O t (((xE t (d - (1:Int)) (O t (O t (O t (O t (O t a ([48])) ([49])) ([116])) ([97])) ([40]))).a:Int)) ([32,43,32]))).a:Int)).toNat ([41]))=((di t d a).ok))/\((t=t/\(O t (((xE t (d - (1:Int)) (O t (((xE t (d - (1:Int)) (O t (O t (O t (O t (O t a ([48])) ([49])) ([116])) ([97])) ([40]))).a:Int)) ([32,43,32]))).a:Int)) ([41]))=((di t d a).a:Int))/\True))))/\(false=(!true) ->
 (((bH (M.mk (6:Int) 0 ([(bH ((xE t (d - (1:Int)) (O t (O t (O t (O t (O t a ([48])) ([49])) ([116])) ([97])) ([40]))).e)),(bH ((xE t (d - (1:Int)) (O t (((xE t (d - (1:Int)) (O t (O t (O t (O t (O t a ([48])) ([49])) ([116])) ([97])) ([40]))).a:Int)) ([32,43,32]))).e))])))=((di t d a).e)/\false=((di t d a).ok))/\((t=t/\(((xE t (d - (1:Int)) (O t (((xE t (d - (1:Int)) (O t (O t (O t (O t (O t a ([48])) ([49])) ([116])) ([97])) ([40]))).a:Int)) ([32,43,32]))).a:Int))=((di t d a).a:Int))/\True)))))))))/\((aE t (((xE t (d - (1:Int)) (O t (O t (O t (O t (O t a ([48])) ([49])) ([116])) ([97])) ([40]))).a:Int)).toNat ([32,43,32]))=false ->
 ((0<=(O t (((xE t (d - (1:Int)) (O t (O t (O t (O t (O t a ([48])) ([49])) ([116])) ([97])) ([40]))).a:Int)) ([32,43,32]))/\(O t (((xE t (d - (1:Int)) (O t (O t (O t (O t (O t a ([48])) ([49])) ([116])) ([97])) ([40]))).a:Int)) ([32,43,32]))<=(t.length:Int)/\t.length<=10000/\([32]).length<=10/\1<=([32]).length)/\(((!(aE t (O t (((xE t (d - (1:Int)) (O t (O t (O t (O t (O t a ([48])) ([49])) ([116])) ([97])) ([40]))).a:Int)) ([32,43,32])).toNat ([32])))=true ->
 ((zE=((di t d a).e)/\false=((di t d a).ok))/\((t=t/\(O t (O t (((xE t (d - (1:Int)) (O t (O t (O t (O t (O t a ([48])) ([49])) ([116])) ([97])) ([40]))).a:Int)) ([32,43,32])) ([32]))=((di t d a).a:Int))/\True)))/\((!(aE t (O t (((xE t (d - (1:Int)) (O t (O t (O t (O t (O t a ([48])) ([49])) ([116])) ([97])) ([40]))).a:Int)) ([32,43,32])).toNat ([32])))=false ->
 (ah (d - (1:Int))/\((2 * ((d - (1:Int))+1).toNat+1<n/\0<=(O t (O t (((xE t (d - (1:Int)) (O t (O t (O t (O t (O t a ([48])) ([49])) ([116])) ([97])) ([40]))).a:Int)) ([32,43,32])) ([32]))/\(O t (O t (((xE t (d - (1:Int)) (O t (O t (O t (O t (O t a ([48])) ([49])) ([116])) ([97])) ([40]))).a:Int)) ([32,43,32])) ([32]))<=(t.length:Int)/\t.length<=10000 /\ -1<=(d - (1:Int))/\(d - (1:Int))<=40)/\((((xE t (d - (1:Int)) (O t (O t (O t (O t (O t a ([48])) ([49])) ([116])) ([97])) ([40]))).ok)=true ->
 ((((xE t (d - (1:Int)) (O t (O t (((xE t (d - (1:Int)) (O t (O t (O t (O t (O t a ([48])) ([49])) ([116])) ([97])) ([40]))).a:Int)) ([32,43,32])) ([32]))).ok)=true ->
 ((0<=(((xE t (d - (1:Int)) (O t (O t (((xE t (d - (1:Int)) (O t (O t (O t (O t (O t a ([48])) ([49])) ([116])) ([97])) ([40]))).a:Int)) ([32,43,32])) ([32]))).a:Int))/\(((xE t (d - (1:Int)) (O t (O t (((xE t (d - (1:Int)) (O t (O t (O t (O t (O t a ([48])) ([49])) ([116])) ([97])) ([40]))).a:Int)) ([32,43,32])) ([32]))).a:Int))<=(t.length:Int)/\t.length<=10000/\([41]).length<=10/\1<=([41]).length)/\(((bH (M.mk (7:Int) 0 ([(bH ((xE t (d - (1:Int)) (O t (O t (O t (O t (O t a ([48])) ([49])) ([116])) ([97])) ([40]))).e)),(bH ((xE t (d - (1:Int)) (O t (O t (((xE t (d - (1:Int)) (O t (O t (O t (O t (O t a ([48])) ([49])) ([116])) ([97])) ([40]))).a:Int)) ([32,43,32])) ([32]))).e))])))=((di t d a).e)/\(aE t (((xE t (d - (1:Int)) (O t (O t (((xE t (d - (1:Int)) (O t (O t (O t (O t (O t a ([48])) ([49])) ([116])) ([97])) ([40]))).a:Int)) ([32,43,32])) ([32]))).a:Int)).toNat ([41]))=((di t d a).ok))/\((t=t/\(O t (((xE t (d - (1:Int)) (O t (O t (((xE t (d - (1:Int)) (O t (O t (O t (O t (O t a ([48])) ([49])) ([116])) ([97])) ([40]))).a:Int)) ([32,43,32])) ([32]))).a:Int)) ([41]))=((di t d a).a:Int))/\True))))/\(((xE t (d - (1:Int)) (O t (O t (((xE t (d - (1:Int)) (O t (O t (O t (O t (O t a ([48])) ([49])) ([116])) ([97])) ([40]))).a:Int)) ([32,43,32])) ([32]))).ok)=(!true) ->
 (((bH (M.mk (7:Int) 0 ([(bH ((xE t (d - (1:Int)) (O t (O t (O t (O t (O t a ([48])) ([49])) ([116])) ([97])) ([40]))).e)),(bH ((xE t (d - (1:Int)) (O t (O t (((xE t (d - (1:Int)) (O t (O t (O t (O t (O t a ([48])) ([49])) ([116])) ([97])) ([40]))).a:Int)) ([32,43,32])) ([32]))).e))])))=((di t d a).e)/\false=((di t d a).ok))/\((t=t/\(((xE t (d - (1:Int)) (O t (O t (((xE t (d - (1:Int)) (O t (O t (O t (O t (O t a ([48])) ([49])) ([116])) ([97])) ([40]))).a:Int)) ([32,43,32])) ([32]))).a:Int))=((di t d a).a:Int))/\True)))))/\(((xE t (d - (1:Int)) (O t (O t (O t (O t (O t a ([48])) ([49])) ([116])) ([97])) ([40]))).ok)=(!true) ->
 ((false=true ->
 ((0<=(((xE t (d - (1:Int)) (O t (O t (((xE t (d - (1:Int)) (O t (O t (O t (O t (O t a ([48])) ([49])) ([116])) ([97])) ([40]))).a:Int)) ([32,43,32])) ([32]))).a:Int))/\(((xE t (d - (1:Int)) (O t (O t (((xE t (d - (1:Int)) (O t (O t (O t (O t (O t a ([48])) ([49])) ([116])) ([97])) ([40]))).a:Int)) ([32,43,32])) ([32]))).a:Int))<=(t.length:Int)/\t.length<=10000/\([41]).length<=10/\1<=([41]).length)/\(((bH (M.mk (7:Int) 0 ([(bH ((xE t (d - (1:Int)) (O t (O t (O t (O t (O t a ([48])) ([49])) ([116])) ([97])) ([40]))).e)),(bH ((xE t (d - (1:Int)) (O t (O t (((xE t (d - (1:Int)) (O t (O t (O t (O t (O t a ([48])) ([49])) ([116])) ([97])) ([40]))).a:Int)) ([32,43,32])) ([32]))).e))])))=((di t d a).e)/\(aE t (((xE t (d - (1:Int)) (O t (O t (((xE t (d - (1:Int)) (O t (O t (O t (O t (O t a ([48])) ([49])) ([116])) ([97])) ([40]))).a:Int)) ([32,43,32])) ([32]))).a:Int)).toNat ([41]))=((di t d a).ok))/\((t=t/\(O t (((xE t (d - (1:Int)) (O t (O t (((xE t (d - (1:Int)) (O t (O t (O t (O t (O t a ([48])) ([49])) ([116])) ([97])) ([40]))).a:Int)) ([32,43,32])) ([32]))).a:Int)) ([41]))=((di t d a).a:Int))/\True))))/\(false=(!true) ->
 (((bH (M.mk (7:Int) 0 ([(bH ((xE t (d - (1:Int)) (O t (O t (O t (O t (O t a ([48])) ([49])) ([116])) ([97])) ([40]))).e)),(bH ((xE t (d - (1:Int)) (O t (O t (((xE t (d - (1:Int)) (O t (O t (O t (O t (O t a ([48])) ([49])) ([116])) ([97])) ([40]))).a:Int)) ([32,43,32])) ([32]))).e))])))=((di t d a).e)/\false=((di t d a).ok))/\((t=t/\(((xE t (d - (1:Int)) (O t (O t (((xE t (d - (1:Int)) (O t (O t (O t (O t (O t a ([48])) ([49])) ([116])) ([97])) ([40]))).a:Int)) ([32,43,32])) ([32]))).a:Int))=((di t d a).a:Int))/\True)))))))))))))))))))))))))))))))))):=by kernel_rfl
theorem A2(n:Nat)(hE:aR [])(hO:ja [pg,iI])(hM:iu [])(hS:gO [cB,dt,gD n]):gj.Good (gC (n+1)):=by
 refine⟨aB np rfl (by decide),?_⟩
 show ∀ (d:Int) (t:List UInt8) (a:Int),(2 * (d+1).toNat<n+1/\0<=a/\a<=(t.length:Int)/\t.length<=10000 /\ -1<=d/\d<=40)->o5 prog oZ [[.d .str, .d (.int .i64)]] [.box 0, .val ⟨(.int .i64),d⟩] [[⟨.str,t⟩,⟨(.int .i64),a⟩]] [⟨(.st .expr),(di t d a).e⟩,⟨.bool,(di t d a).ok⟩] [[⟨.str,t⟩,⟨(.int .i64),((di t d a).a:Int)⟩]]
 intro d t a hp
 refine fm (own:=[22,26,36,47,57,70,76,77]) (wr:=[]) (cl:=[]) (ro:=[]) hE hO hM hS np zd (tc d t a) rfl rfl ?_
 rewrite [A8 n d t a]
 obtain⟨hm,h0,h1,h2,h3,h4⟩:=hp
 by_cases hd:d<0
 .obtain⟨q1,q2,q3⟩:=W0 t d a hd h0
  simp only[a2v hd,q1,q2,q3,a1Y,a1V,a1Q,a1O,a1I,a1G,a1J,a1K,a1R,a1W,a1H,a1Z,a1E,ah,aG]
  repeat' (first|intro _|apply And.intro)
  all_goals first|exact True.intro|omega|with_reducible rfl|decide
 .have xc:=a1P hd
  rcases a2q (aE t a.toNat [48]) with w8|w8
  .have k:=mh t a.toNat 48 [] w8
   simp only[a1M,a2b] at k
   obtain⟨q1,q2,q3⟩:=Z8 t d a hd h0 w8
   have b1:=CG t (a+1) (by omega)
   have b2:=Ge t (a+1) (by omega) (by omega)
   simp only[xc,w8,uq t a 48 w8,q1,q2,q3,a1Y,a1V,a1Q,a1O,a1I,a1G,a1J,a1K,a1R,a1W,a1H,a1Z,a1E,ah,aG]
   repeat' (first|intro _|apply And.intro)
   all_goals first|exact True.intro|omega|with_reducible rfl|decide
  .have f48:=pW t a [48] w8
   rcases a2q (aE t a.toNat [49]) with zq|zq
   .have k:=mh t a.toNat 49 [] zq
    simp only[a1M,a2b] at k
    obtain⟨q1,q2,q3⟩:=a0a t d a hd h0 w8 zq
    have b1:=CG t (a+1) (by omega)
    have b2:=Ge t (a+1) (by omega) (by omega)
    simp only[xc,w8,f48,zq,uq t a 49 zq,q1,q2,q3,a1Y,a1V,a1Q,a1O,a1I,a1G,a1J,a1K,a1R,a1W,a1H,a1Z,a1E,ah,aG]
    repeat' (first|intro _|apply And.intro)
    all_goals first|exact True.intro|omega|with_reducible rfl|decide
   .have f49:=pW t a [49] zq
    rcases a2q (aE t a.toNat [116]) with tP|tP
    .have k:=mh t a.toNat 116 [] tP
     simp only[a1M,a2b] at k
     obtain⟨q1,q2,q3⟩:=YE t d a hd h0 w8 zq tP
     have b1:=CG t (a+1) (by omega)
     have b2:=Ge t (a+1) (by omega) (by omega)
     simp only[xc,w8,f48,zq,f49,tP,uq t a 116 tP,q1,q2,q3,a1Y,a1V,a1Q,a1O,a1I,a1G,a1J,a1K,a1R,a1W,a1H,a1Z,a1E,ah,aG]
     repeat' (first|intro _|apply And.intro)
     all_goals first|exact True.intro|omega|with_reducible rfl|decide
    .have f116:=pW t a [116] tP
     rcases a2q (aE t a.toNat [97]) with Gg|Gg
     .have k:=mh t a.toNat 97 [] Gg
      simp only[a1M,a2b] at k
      obtain⟨q1,q2,q3⟩:=a0b t d a hd h0 w8 zq tP Gg
      have b1:=CG t (a+1) (by omega)
      have b2:=Ge t (a+1) (by omega) (by omega)
      simp only[xc,w8,f48,zq,f49,tP,f116,Gg,uq t a 97 Gg,q1,q2,q3,a1Y,a1V,a1Q,a1O,a1I,a1G,a1J,a1K,a1R,a1W,a1H,a1Z,a1E,ah,aG]
      repeat' (first|intro _|apply And.intro)
      all_goals first|exact True.intro|omega|with_reducible rfl|decide
     .have f97:=pW t a [97] Gg
      rcases a2q (aE t a.toNat [40]) with Lk|Lk
      .have k:=mh t a.toNat 40 [] Lk
       simp only[a1M,a2b] at k
       have g1:=uq t a 40 Lk
       have b1:=CA t (d - 1) (a+1) (by omega) (by omega)
       obtain⟨p1,p2,p3⟩:=Z7 t d a hd h0 w8 zq tP Gg Lk _ rfl
       simp only[xc,w8,f48,zq,f49,tP,f116,Gg,f97,Lk,g1,a1Y,a1V,a1Q,a1O,a1I,a1G,a1J,a1K,a1R,a1W,a1H,a1Z,a1E,ah,aG]
       generalize xE t (d - 1) (a+1)=X at *
       rcases a2q (aE t X.a [32,43,32]) with eS|eS
       .skip
        have k2:=mh t _ 32 [43,32] eS
        simp only[a1M,a2b] at k2
        have g2:=XM t (X.a:Int) 32 43 32 (by rw[a1E];exact eS)
        obtain⟨q1,q2,q3⟩:=p1 eS
        have b2:=CA t (d - 1) ((X.a:Int)+3) (by omega) (by omega)
        simp only[eS,g2,q1,q2,q3,a1Y,a1V,a1Q,a1O,a1I,a1G,a1J,a1K,a1R,a1W,a1H,a1Z,a1E,ah,aG]
        generalize xE t (d - 1) ((X.a:Int)+3)=Y at *
        have b3:=kf t (Y.a:Int) [41] (by omega)
        have b4:=kg t (Y.a:Int) [41] (by omega) b2
        rcases a2q X.ok with x1|x1
        .rcases a2q Y.ok with y1|y1
         .simp only[x1,y1,Tp t X Y x1 y1,a3b,a2U,a2V,a1Y,a1V,a1Q,a1O,a1I,a1G,a1J,a1K,a1R,a1W,a1H,a1Z,a1E,ah,aG]
          repeat' (first|intro _|apply And.intro)
          all_goals first|exact True.intro|omega|with_reducible rfl|decide
         .simp only[x1,y1,KH t X Y (.inr y1),a3b,a2U,a2S,a2T,a1Y,a1V,a1Q,a1O,a1I,a1G,a1J,a1K,a1R,a1W,a1H,a1Z,a1E,ah,aG]
          repeat' (first|intro _|apply And.intro)
          all_goals first|exact True.intro|omega|with_reducible rfl|decide
        .simp only[x1,KH t X Y (.inl x1),a3b,a2U,a2S,a2T,a1Y,a1V,a1Q,a1O,a1I,a1G,a1J,a1K,a1R,a1W,a1H,a1Z,a1E,ah,aG]
         repeat' (first|intro _|apply And.intro)
         all_goals first|exact True.intro|omega|with_reducible rfl|decide
       .have g3:=pW t (X.a:Int) [32,43,32] (by rw[a1E];exact eS)
        rcases a2q (aE t X.a [32]) with eD|eD
        .skip
         have k2:=mh t _ 32 [] eD
         simp only[a1M,a2b] at k2
         have g2:=uq t (X.a:Int) 32 (by rw[a1E];exact eD)
         obtain⟨q1,q2,q3⟩:=p2 eS eD
         have b2:=CA t (d - 1) ((X.a:Int)+1) (by omega) (by omega)
         simp only[eD,eS,g3,g2,q1,q2,q3,a1Y,a1V,a1Q,a1O,a1I,a1G,a1J,a1K,a1R,a1W,a1H,a1Z,a1E,ah,aG]
         generalize xE t (d - 1) ((X.a:Int)+1)=Y at *
         have b3:=kf t (Y.a:Int) [41] (by omega)
         have b4:=kg t (Y.a:Int) [41] (by omega) b2
         rcases a2q X.ok with x1|x1
         .rcases a2q Y.ok with y1|y1
          .simp only[x1,y1,Tp t X Y x1 y1,a3b,a2U,a2V,a1Y,a1V,a1Q,a1O,a1I,a1G,a1J,a1K,a1R,a1W,a1H,a1Z,a1E,ah,aG]
           repeat' (first|intro _|apply And.intro)
           all_goals first|exact True.intro|omega|with_reducible rfl|decide
          .simp only[x1,y1,KH t X Y (.inr y1),a3b,a2U,a2S,a2T,a1Y,a1V,a1Q,a1O,a1I,a1G,a1J,a1K,a1R,a1W,a1H,a1Z,a1E,ah,aG]
           repeat' (first|intro _|apply And.intro)
           all_goals first|exact True.intro|omega|with_reducible rfl|decide
         .simp only[x1,KH t X Y (.inl x1),a3b,a2U,a2S,a2T,a1Y,a1V,a1Q,a1O,a1I,a1G,a1J,a1K,a1R,a1W,a1H,a1Z,a1E,ah,aG]
          repeat' (first|intro _|apply And.intro)
          all_goals first|exact True.intro|omega|with_reducible rfl|decide
        .have g4:=pW t (X.a:Int) [32] (by rw[a1E];exact eD)
         obtain⟨q1,q2,q3⟩:=p3 eS eD
         simp only[eS,eD,g3,g4,q1,q2,q3,a1Y,a1V,a1Q,a1O,a1I,a1G,a1J,a1K,a1R,a1W,a1H,a1Z,a1E,ah,aG]
         repeat' (first|intro _|apply And.intro)
         all_goals first|exact True.intro|omega|with_reducible rfl|decide
      .have f40:=pW t a [40] Lk
       obtain⟨q1,q2,q3⟩:=a0c t d a hd h0 w8 zq tP Gg Lk
       simp only[xc,w8,f48,zq,f49,tP,f116,Gg,f97,Lk,f40,q1,q2,q3,a1Y,a1V,a1Q,a1O,a1I,a1G,a1J,a1K,a1R,a1W,a1H,a1Z,a1E,ah,aG]
       repeat' (first|intro _|apply And.intro)
       all_goals first|exact True.intro|omega|with_reducible rfl|decide
def td(d:Int)(t:List UInt8)(a:Int):Nat->aW:=(λ zb=>if Nat.beq zb 0 then .mk (Nat) (λ k=>k<=nE t a) (λ k=>nE t a - k) [] [2,3] (λ k=>[(6, .az ⟨(.int .i64),((k:Int):Int)⟩)]) [0,1,4,5,6,7,8,9,10,11,12,13,14,15,16,17,18,19,20,21,22,23,24,25,26,27,28,29,30,31,32,33,34,35,36,37,38,39,40,41] (λ k=>[(400000, .box [.az ⟨.str,(t:List UInt8)⟩, .az ⟨(.int .i64),(a+(k:Int):Int)⟩])]) [] [] (λ k=>λ _ => .none) else if Nat.beq zb 2 then .mk (Nat) (λ j=>j<=nE t a/\nE t a<=40) (λ j=>nE t a - j) [] [1,2,3,10,11,12,13,14,15,16,17,18,19,20,21,22] (λ j=>[(6, .az ⟨(.int .i64),((nE t a:Int) - (j:Int):Int)⟩)]) [0,4,5,6,8,9,23,24,25,26,27,28,29,30,31,32,33,34,35,36,37,38,39,40,41,400000] (λ j=>[(7, .box [.az ⟨(.int .i64),((aP 5 j (rE t d a).e).af:Int)⟩, .az ⟨(.int .i64),((aP 5 j (rE t d a).e).al:Int)⟩, .aq 7100]),(7100, .aq (.st .expr) ((aP 5 j (rE t d a).e).J:List M))]) [] [] (λ j=>λ _ => .none) else if Nat.beq zb 4 then .mk (Nat) (λ m=>m<=mE t d a/\m<=41/\nE t a<=40) (λ m=>mE t d a - m) [] [1,2,3,6,10,11,12,13,14,15,16,17,18,19,20,21,22,23,24,25,26,27,28,29] (λ m=>[(9, .az ⟨(.int .i64),((m:Int):Int)⟩)]) [0,4,5,8,9,30,31,32,33,34,35,36,37,38,39,40,41] (λ m=>[(400000, .box [.az ⟨.str,(t:List UInt8)⟩, .az ⟨(.int .i64),(((rE t d a).a:Int)+(m:Int):Int)⟩]),(7, .box [.az ⟨(.int .i64),((aP 8 m (aP 5 (nE t a) (rE t d a).e)).af:Int)⟩, .az ⟨(.int .i64),((aP 8 m (aP 5 (nE t a) (rE t d a).e)).al:Int)⟩, .aq 7200]),(7200, .aq (.st .expr) ((aP 8 m (aP 5 (nE t a) (rE t d a).e)).J:List M))]) [] [] (λ m=>λ _ => .none) else .none)
theorem A9(n:Nat)(d:Int)(t:List UInt8)(a:Int):dd (dr [] [iI] [] [20,28,29,38,39] [] [] [] [cB,gC n]) (aD ga) (td d t a) 0 (ij (dr [] [iI] [] [20,28,29,38,39] [] [] [] [cB,gC n]) ga [[.d .str, .d (.int .i64)]] λ r ds=>bR r [⟨(.st .expr),(xE t d a).e⟩,⟨.bool,(xE t d a).ok⟩]/\jl ds [[⟨.str,t⟩,⟨(.int .i64),((xE t d a).a:Int)⟩]]) (cv ga [.box 0, .val ⟨(.int .i64),d⟩] [[.d .str, .d (.int .i64)]] [[⟨.str,t⟩,⟨(.int .i64),a⟩]]) =
 (((∃ k1:Nat,(k1<=nE t a/\((True/\(d=d/\(True/\(false=false/\((0:Int)=(k1:Int)/\True)))))/\((t=t/\(a=(a+(k1:Int))/\True))/\(((0:Int)=(0:Int)/\((0:Int)=(0:Int)/\(True/\True)))/\True)))))/\(∀ k1:Nat,(k1<=nE t a ->
 ((0<=(a+(k1:Int))/\(a+(k1:Int))<=(t.length:Int)/\t.length<=10000/\([126]).length<=10/\1<=([126]).length)/\(((aE t (a+(k1:Int)).toNat ([126]))=true ->
 (ah ((k1:Int)+(1:Int))/\(∃ k2:Nat,(k2<=nE t a/\(nE t a - k2<nE t a - k1/\((True/\(d=d/\(True/\(false=false/\(((k1:Int)+(1:Int))=(k2:Int)/\True)))))/\((t=t/\((O t (a+(k1:Int)) ([126]))=(a+(k2:Int))/\True))/\(((0:Int)=(0:Int)/\((0:Int)=(0:Int)/\(True/\True)))/\True))))))))/\((aE t (a+(k1:Int)).toNat ([126]))=false ->
 (((decide ((40:Int)<(k1:Int)))=true ->
 ((zE=((xE t d a).e)/\false=((xE t d a).ok))/\((t=t/\(O t (a+(k1:Int)) ([126]))=((xE t d a).a:Int))/\True)))/\((decide ((40:Int)<(k1:Int)))=false ->
 ((2 * (d+1).toNat<n/\0<=(O t (a+(k1:Int)) ([126]))/\(O t (a+(k1:Int)) ([126]))<=(t.length:Int)/\t.length<=10000 /\ -1<=d/\d<=40)/\((∃ j2:Nat,((j2<=nE t a/\nE t a<=40)/\((True/\(True/\(false=false/\((k1:Int)=((nE t a:Int) - (j2:Int))/\(True/\(((di t d (O t (a+(k1:Int)) ([126]))).ok)=((di t d (O t (a+(k1:Int)) ([126]))).ok)/\True))))))/\((((di t d (O t (a+(k1:Int)) ([126]))).e).af=((aP 5 j2 (rE t d a).e).af)/\(((di t d (O t (a+(k1:Int)) ([126]))).e).al=((aP 5 j2 (rE t d a).e).al)/\(True/\True)))/\(((di t d (O t (a+(k1:Int)) ([126]))).e).J=((aP 5 j2 (rE t d a).e).J)/\((t=t/\((((di t d (O t (a+(k1:Int)) ([126]))).a:Int))=(((di t d (O t (a+(k1:Int)) ([126]))).a:Int))/\True))/\(((0:Int)=(0:Int)/\((0:Int)=(0:Int)/\(True/\True)))/\True)))))))/\(∀ j2:Nat,((j2<=nE t a/\nE t a<=40) ->
 (((decide ((0:Int)<((nE t a:Int) - (j2:Int))))=true ->
 (ah (((nE t a:Int) - (j2:Int)) - (1:Int))/\(∃ j3:Nat,((j3<=nE t a/\nE t a<=40)/\(nE t a - j3<nE t a - j2/\((True/\(True/\(false=false/\((((nE t a:Int) - (j2:Int)) - (1:Int))=((nE t a:Int) - (j3:Int))/\(True/\(((di t d (O t (a+(k1:Int)) ([126]))).ok)=((di t d (O t (a+(k1:Int)) ([126]))).ok)/\True))))))/\(((M.mk (5:Int) 0 ([(M.mk ((aP 5 j2 (rE t d a).e).af) ((aP 5 j2 (rE t d a).e).al) ((aP 5 j2 (rE t d a).e).J))])).af=((aP 5 j3 (rE t d a).e).af)/\((M.mk (5:Int) 0 ([(M.mk ((aP 5 j2 (rE t d a).e).af) ((aP 5 j2 (rE t d a).e).al) ((aP 5 j2 (rE t d a).e).J))])).al=((aP 5 j3 (rE t d a).e).al)/\(True/\True)))/\((M.mk (5:Int) 0 ([(M.mk ((aP 5 j2 (rE t d a).e).af) ((aP 5 j2 (rE t d a).e).al) ((aP 5 j2 (rE t d a).e).J))])).J=((aP 5 j3 (rE t d a).e).J)/\((t=t/\((((di t d (O t (a+(k1:Int)) ([126]))).a:Int))=(((di t d (O t (a+(k1:Int)) ([126]))).a:Int))/\True))/\(((0:Int)=(0:Int)/\((0:Int)=(0:Int)/\(True/\True)))/\True))))))))))/\((decide ((0:Int)<((nE t a:Int) - (j2:Int))))=false ->
 ((∃ m3:Nat,((m3<=mE t d a/\m3<=41/\nE t a<=40)/\((True/\(True/\(True/\(((di t d (O t (a+(k1:Int)) ([126]))).ok)=((di t d (O t (a+(k1:Int)) ([126]))).ok)/\((0:Int)=(m3:Int)/\True)))))/\((t=t/\((((di t d (O t (a+(k1:Int)) ([126]))).a:Int))=(((rE t d a).a:Int)+(m3:Int))/\True))/\((((aP 5 j2 (rE t d a).e).af)=((aP 8 m3 (aP 5 (nE t a) (rE t d a).e)).af)/\(((aP 5 j2 (rE t d a).e).al)=((aP 8 m3 (aP 5 (nE t a) (rE t d a).e)).al)/\(True/\True)))/\(((aP 5 j2 (rE t d a).e).J)=((aP 8 m3 (aP 5 (nE t a) (rE t d a).e)).J)/\(((0:Int)=(0:Int)/\((0:Int)=(0:Int)/\(True/\True)))/\True)))))))/\(∀ m3:Nat,((m3<=mE t d a/\m3<=41/\nE t a<=40) ->
 ((0<=(((rE t d a).a:Int)+(m3:Int))/\(((rE t d a).a:Int)+(m3:Int))<=(t.length:Int)/\t.length<=10000/\([42]).length<=10/\1<=([42]).length)/\(((aE t (((rE t d a).a:Int)+(m3:Int)).toNat ([42]))=true ->
 (((decide ((40:Int)<(m3:Int)))=true ->
 ((zE=((xE t d a).e)/\false=((xE t d a).ok))/\((t=t/\(O t (((rE t d a).a:Int)+(m3:Int)) ([42]))=((xE t d a).a:Int))/\True)))/\((decide ((40:Int)<(m3:Int)))=false ->
 (ah ((m3:Int)+(1:Int))/\(∃ m4:Nat,((m4<=mE t d a/\m4<=41/\nE t a<=40)/\(mE t d a - m4<mE t d a - m3/\((True/\(True/\(True/\(((di t d (O t (a+(k1:Int)) ([126]))).ok)=((di t d (O t (a+(k1:Int)) ([126]))).ok)/\(((m3:Int)+(1:Int))=(m4:Int)/\True)))))/\((t=t/\((O t (((rE t d a).a:Int)+(m3:Int)) ([42]))=(((rE t d a).a:Int)+(m4:Int))/\True))/\(((M.mk (8:Int) 0 ([(M.mk ((aP 8 m3 (aP 5 (nE t a) (rE t d a).e)).af) ((aP 8 m3 (aP 5 (nE t a) (rE t d a).e)).al) ((aP 8 m3 (aP 5 (nE t a) (rE t d a).e)).J))])).af=((aP 8 m4 (aP 5 (nE t a) (rE t d a).e)).af)/\((M.mk (8:Int) 0 ([(M.mk ((aP 8 m3 (aP 5 (nE t a) (rE t d a).e)).af) ((aP 8 m3 (aP 5 (nE t a) (rE t d a).e)).al) ((aP 8 m3 (aP 5 (nE t a) (rE t d a).e)).J))])).al=((aP 8 m4 (aP 5 (nE t a) (rE t d a).e)).al)/\(True/\True)))/\((M.mk (8:Int) 0 ([(M.mk ((aP 8 m3 (aP 5 (nE t a) (rE t d a).e)).af) ((aP 8 m3 (aP 5 (nE t a) (rE t d a).e)).al) ((aP 8 m3 (aP 5 (nE t a) (rE t d a).e)).J))])).J=((aP 8 m4 (aP 5 (nE t a) (rE t d a).e)).J)/\(((0:Int)=(0:Int)/\((0:Int)=(0:Int)/\(True/\True)))/\True))))))))))))/\((aE t (((rE t d a).a:Int)+(m3:Int)).toNat ([42]))=false ->
 (((M.mk ((aP 8 m3 (aP 5 (nE t a) (rE t d a).e)).af) ((aP 8 m3 (aP 5 (nE t a) (rE t d a).e)).al) ((aP 8 m3 (aP 5 (nE t a) (rE t d a).e)).J))=((xE t d a).e)/\((di t d (O t (a+(k1:Int)) ([126]))).ok)=((xE t d a).ok))/\((t=t/\(O t (((rE t d a).a:Int)+(m3:Int)) ([42]))=((xE t d a).a:Int))/\True))))))))))))))))))))))):=by kernel_rfl
theorem A3(n:Nat)(hE:aR [])(hO:ja [iI])(hM:iu [])(hS:gO [cB,gC n]):gj.Good (gD (n+1)):=by
 refine⟨aB jK rfl (by decide),?_⟩
 show ∀ (d:Int) (t:List UInt8) (a:Int),(2 * (d+1).toNat+1<n+1/\0<=a/\a<=(t.length:Int)/\t.length<=10000 /\ -1<=d/\d<=40)->o5 prog kE [[.d .str, .d (.int .i64)]] [.box 0, .val ⟨(.int .i64),d⟩] [[⟨.str,t⟩,⟨(.int .i64),a⟩]] [⟨(.st .expr),(xE t d a).e⟩,⟨.bool,(xE t d a).ok⟩] [[⟨.str,t⟩,⟨(.int .i64),((xE t d a).a:Int)⟩]]
 intro d t a hp
 refine fm (own:=[20,28,29,38,39]) (wr:=[]) (cl:=[]) (ro:=[]) hE hO hM hS jK ze (td d t a) rfl rfl ?_
 rewrite [A9 n d t a]
 obtain⟨hm,h0,h1,h2,h3,h4⟩:=hp
 have n1:=Wn t a h0 h1
 have n2:=ZP t d a h0 h1
 have z1:=λ k h=>ZW t a k h0 h
 have z2:=λ k h=>ZV t d a k h
 have c1:di t d (a+(nE t a:Int))=rE t d a:=WA t d a h0
 simp only[a1Y,a1V,a1Q,a1O,a1I,a1G,a1J,a1K,a1R,a1W,a1H,a1Z,a1E,ah,aG]
 refine⟨⟨0,a3g _,by omega⟩,λ k1 hk=>⟨?_,λ e1=>?_,λ e1=>?_⟩⟩
 .repeat' (first|intro _|apply And.intro)
  all_goals first|exact True.intro|omega|with_reducible rfl|decide
 .have g:=z1 k1 hk
  rw[e1] at g
  have g':=a2d g.symm
  rw[uq t _ 126 e1]
  exact⟨by omega,k1+1,by omega,by omega,by omega,by omega⟩
 .have g:=z1 k1 hk
  rw[e1] at g
  have g':=a3e g.symm
  have Ij:k1=nE t a:=by omega
  subst Ij
  have f1:=pW t _ [126] e1
  by_cases hn:40<nE t a
  .obtain⟨x1,x2,x3⟩:=WN t d a h0 hn
   simp only[f1,(a2v (by omega):decide ((40:Int)<(nE t a:Int))=true),x1,x2,x3,a1Y,a1V,a1Q,a1O,a1I,a1G,a1J,a1K,a1R,a1W,a1H,a1Z,a1E,ah,aG]
   repeat' (first|intro _|apply And.intro)
   all_goals first|exact True.intro|omega|with_reducible rfl|decide
  .simp only[f1,c1,(a1P (by omega):decide ((40:Int)<(nE t a:Int))=false),a1Y,a1V,a1Q,a1O,a1I,a1G,a1J,a1K,a1R,a1W,a1H,a1Z,a1E,ah,aG]
   refine⟨by omega,⟨0,⟨a3g _,by omega⟩,by omega,⟨rfl,rfl⟩,rfl⟩,λ j2 hj=>⟨λ e2=>?_,λ e2=>?_⟩⟩
   .have e2':=a2d e2
    exact⟨by omega,j2+1,⟨by omega,by omega⟩,by omega,by omega,⟨by rw[ep],by rw[ep]⟩,by rw[ep,M.eta]⟩
   .have e2':=a3e e2
    have hj2:j2=nE t a:=by omega
    subst hj2
    refine⟨⟨0,⟨a3g _,by omega,by omega⟩,rfl,by omega,⟨rfl,rfl⟩,rfl⟩,λ m3 T4=>⟨⟨by omega,by omega,by omega,by decide,by decide⟩,λ e3=>⟨λ e4=>?_,λ e4=>?_⟩,λ e3=>?_⟩⟩
    .have g3:=z2 m3 T4.1
     rw[e3] at g3
     have g3':=a2d g3.symm
     have e4':=a2d e4
     obtain⟨x1,x2,x3⟩:=UI t d a hn (by omega)
     rw[uq t _ 42 e3,x1,x2,x3]
     exact⟨⟨rfl,rfl⟩,by omega⟩
    .have g3:=z2 m3 T4.1
     rw[e3] at g3
     have g3':=a2d g3.symm
     have e4':=a3e e4
     rw[uq t _ 42 e3]
     exact⟨by omega,m3+1,⟨by omega,by omega,by omega⟩,by omega,by omega,by omega,⟨by rw[ep],by rw[ep]⟩,by rw[ep,M.eta]⟩
    .have g3:=z2 m3 T4.1
     rw[e3] at g3
     have g3':=a3e g3.symm
     have hm:m3=mE t d a:=by omega
     subst hm
     obtain⟨x1,x2,x3⟩:=WM t d a hn (by omega)
     rw[pW t _ _ e3,x1,x2,x3,M.eta]
     exact⟨⟨rfl,rfl⟩,rfl⟩
theorem Nw:∀ n,gO [gC n,gD n]
 | 0=>⟨⟨aB np rfl (by decide),λ _ _ _ h=>absurd h.1 (a2s _)⟩,⟨aB jK rfl (by decide),λ _ _ _ h=>absurd h.1 (a2s _)⟩,trivial⟩
 | n+1=>by
  have ih:=Nw n
  exact⟨A2 n trivial ⟨Iy,yQ,trivial⟩ trivial ⟨lC,pn,ih.2.1,trivial⟩,A3 n trivial ⟨yQ,trivial⟩ trivial ⟨lC,ih.1,trivial⟩,trivial⟩
theorem yT:gj.Good jY :=
 ⟨aB jK rfl (by decide),λ d t a hp=>(Nw (2 * (d+1).toNat+1+1)).2.1.2 d t a (⟨a2l _,hp⟩)⟩
end
end Go.Proofs.YtaaamahdcpcofaaDoor

set_option maxRecDepth 4000
set_option maxHeartbeats 4000000
namespace Go.Proofs.YtaaamahdcpcofaaDoor
noncomputable section
theorem Lg(c:UInt8):∀ l:List UInt8,dO c l<=l.length
 | []=>a2u _
 | b::l=>by
  have:=Lg c l
  unfold dO
  split<;>simp<;>omega
theorem Ld:∀ l:List UInt8,o7 l<=l.length
 | []=>a2u _
 | b::l=>by
  have:=Ld l
  unfold o7
  split<;>simp<;>omega
theorem sI(t:List UInt8)(a:Nat)(h:¬ bE t a=0):a<t.length:=by
 unfold bE at h
 split at h
 .assumption
 .exact absurd rfl h
theorem Ad(t:List UInt8)(a:Nat)(c:Int)(hc:¬ c=0)(h:a<=t.length):bh t a c<=t.length:=by
 unfold bh
 split
 .rename_i e
  have:=sI t a (by rw[e];exact hc)
  omega
 .exact h
theorem UC(t:List UInt8)(r:RS)(h:r.a<=t.length):(xB t r).a<=t.length/\(xB t r).L=r.L - 1:=by
 have:=Lg 42 (t.drop r.a)
 simp only[a2H] at this
 unfold xB
 split
 .exact⟨h,rfl⟩
 .exact⟨by show r.a+dO 42 (t.drop r.a)<=_;omega,rfl⟩
structure OD(t:List UInt8)(L m:Nat)(r:RS):Prop where
 a:r.a<=t.length
 lo:L<=r.L
 hi:r.L<=m
theorem CI(inner:Nat->Nat->RS)(t:List UInt8)(a L:Nat)(bad:Bool)(ha:a<=t.length)(hi:L+1<=100->bad=false->OD t (L+1) 102 (inner a (L+1))):OD t L (max 101 (L+1)) (eZ inner t a L bad):=by
 unfold eZ
 split
 .exact⟨ha,a5h _,by show L+1<=_;omega⟩
 .rename_i h
  have hb:bad=false:=by cases bad<;>simp_all
  have g:=hi (by omega) hb
  have s:=UC t _ g.a
  have:=g.lo;have:=g.hi
  exact⟨s.1,by rw[s.2];omega,by rw[s.2];omega⟩
theorem MB(inner:Nat->Nat->RS)(t:List UInt8)(x:RS)(k:Int)(a L:Nat)(bad:Bool)(hd:L<=100)(ha:a<=t.length)(hx:OD t L 101 x)(hb:bad=false->x.L=L)(hi:L+1<=100->∀ a,a<=t.length->OD t (L+1) 102 (inner a (L+1))) :
  OD t L 102 (xy inner t x k a bad):=by
 have:=hx.lo;have:=hx.hi
 have hy:=CI inner t a x.L bad ha (λ h1 h2=>by rw[hb h2] at h1 ⊢;exact hi h1 a ha)
 have:=hy.lo;have:=hy.hi
 unfold xy
 exact⟨Ad t _ 41 (by decide) hy.a,by show L<=(eZ inner t a x.L bad).L;omega,by show (eZ inner t a x.L bad).L<=102;omega⟩
theorem yV(t:List UInt8)(a:Nat)(c:Int)(bad:Bool)(h:bF t a c bad=false):bad=false:=by
 unfold bF at h
 split at h
 .exact h
 .cases h
theorem Ol(inner:Nat->Nat->RS)(t:List UInt8)(x:RS)(L:Nat)(hd:L<=100)(hx:OD t L 101 x)(hb:x.bad=false->x.L=L)(hi:L+1<=100->∀ a,a<=t.length->OD t (L+1) 102 (inner a (L+1))) :
  OD t L 102 (tN inner t x):=by
 have h1:=Ad t x.a 32 (by decide) hx.a
 unfold tN
 split
 .rename_i e
  have h2:=sI t (bh t x.a 32) (by rw[e];decide)
  exact MB inner t x 6 _ L _ hd (Ad t _ 32 (by decide) (by omega)) hx (λ h=>hb (yV t _ _ _ (yV t _ _ _ h))) hi
 .exact MB inner t x 7 _ L _ hd h1 hx (λ h=>hb (yV t _ _ _ h)) hi
theorem jQ(t:List UInt8)(g a L:Nat):cz t g a L=if bE t a=48 then ⟨M.mk 1 0 [],a+1,L,false⟩ else if bE t a=49 then ⟨M.mk 2 0 [],a+1,L,false⟩ else
  if bE t a=116\/bE t a=97 then bP t a L else
  if bE t a=126 then (match g with
   | 0=>⟨zX,a+1,L+1,true⟩
   | g+1=>⟨M.mk 5 0 [(cz t g (a+1) (L+1)).e],(cz t g (a+1) (L+1)).a,(cz t g (a+1) (L+1)).L - 1,(cz t g (a+1) (L+1)).bad⟩) else
  if bE t a=40 then (match g with
   | 0=>tN (λ _ _=>⟨zX,0,0,true⟩) t (eZ (λ _ _=>⟨zX,0,0,true⟩) t (a+1) L false)
   | g+1=>tN (cz t g) t (eZ (cz t g) t (a+1) L false)) else ⟨zX,a,L,true⟩:=by
 exact cz.eq_def t g a L
theorem uY(t:List UInt8):∀ (g a L:Nat),g+L=100->a<=t.length->OD t L 102 (cz t g a L)
 | g,a,L,hg,ha=>by
  have lt:∀ c:Int,¬ c=0->bE t a=c->a+1<=t.length:=λ c hc h=>sI t a (by rw[h];exact hc)
  rw[jQ]
  split
  .rename_i h;exact⟨lt _ (by decide) h,a2u _,by show L<=102;omega⟩
  .split
   .rename_i h;exact⟨lt _ (by decide) h,a2u _,by show L<=102;omega⟩
   .split
    .rename_i h
     have h1:a+1<=t.length:=by rcases h with h|h<;>exact lt _ (by decide) h
     have:=Ld (t.drop (a+1))
     simp only[a2H] at this
     exact⟨by show a+1+o7 (t.drop (a+1))<=_;omega,a2u _,by show L<=102;omega⟩
    .split
     .rename_i h
      have h1:=lt _ (by decide) h
      cases g with
      | zero=>exact⟨h1,a5h _,by show L+1<=102;omega⟩
      | succ g =>
       have ih:=uY t g (a+1) (L+1) (by omega) h1
       have:=ih.lo;have:=ih.hi
       exact⟨ih.a,by show L<=(cz t g (a+1) (L+1)).L - 1;omega,by show (cz t g (a+1) (L+1)).L - 1<=102;omega⟩
     .split
      .rename_i h
       have h1:=lt _ (by decide) h
       cases g with
       | zero =>
        have hx:=CI (λ _ _=>⟨zX,0,0,true⟩) t (a+1) L false h1 (λ h=>by omega)
        refine Ol _ t _ L (by omega) ⟨hx.a,hx.lo,by have:=hx.hi;omega⟩ (λ hb=>?_) (λ h=>by omega)
        exact ((rW (λ _ _=>⟨zX,0,0,true⟩) t (a+1) L false (λ h=>by omega)).ex hb).1
       | succ g =>
        have hx:=CI (cz t g) t (a+1) L false h1 (λ _ _=>uY t g (a+1) (L+1) (by omega) h1)
        refine Ol _ t _ L (by omega) ⟨hx.a,hx.lo,by have:=hx.hi;omega⟩ (λ hb=>?_) (λ _ a' ha'=>uY t g a' (L+1) (by omega) ha')
        exact ((rW (cz t g) t (a+1) L false (λ _=>zD t g (a+1) (L+1) (by omega))).ex hb).1
      .exact⟨ha,a2u _,by show L<=102;omega⟩
def aL(t:List UInt8)(a L:Int):RS:=cz t (100 - L).toNat a.toNat L.toNat
def aS(t:List UInt8)(a L:Int)(bad:Bool):RS:=eZ (cz t (99 - L).toNat) t a.toNat L.toNat bad
def sE(t:List UInt8)(r:RS):Nat:=if r.bad=true then 0 else dO 42 (t.drop r.a)
theorem WH(t:List UInt8)(r:RS):xB t r=⟨aP 8 (sE t r) r.e,r.a+sE t r,r.L - 1,r.bad⟩:=by
 unfold xB sE
 cases r.bad<;>rfl
theorem GS(t:List UInt8)(a L:Int)(h0:0<=a)(h1:a<=(t.length:Int))(h2:0<=L)(h3:L<=100):((aL t a L).a:Int)<=(t.length:Int)/\L<=((aL t a L).L:Int)/\((aL t a L).L:Int)<=102:=by
 have g:=uY t (100 - L).toNat a.toNat L.toNat (by omega) (by omega)
 have:=g.a;have:=g.lo;have:=g.hi
 unfold aL;omega
theorem uc(t:List UInt8)(a L:Int)(bad:Bool)(h0:0<=a)(h1:a<=(t.length:Int))(h2:0<=L):((aS t a L bad).a:Int)<=(t.length:Int)/\L<=((aS t a L bad).L:Int)/\(((aS t a L bad).L:Int)<=101\/((aS t a L bad).L:Int)<=L+1):=by
 have g:=CI (cz t (99 - L).toNat) t a.toNat L.toNat bad (by omega) (λ h _=>uY t (99 - L).toNat a.toNat (L.toNat+1) (by omega) (by omega))
 have:=g.a;have:=g.lo;have:=g.hi
 unfold aS;omega
theorem Qr(t:List UInt8)(a L:Int)(bad:Bool)(h0:0<=a)(h2:0<=L)(h:bad=true\/100<L+1):(aS t a L bad).e=zX/\((aS t a L bad).a:Int)=a/\((aS t a L bad).L:Int)=L+1/\(aS t a L bad).bad=true:=by
 unfold aS eZ
 rw[a1S (by rcases h with h|h;exact .inl h;exact .inr (by omega))]
 exact⟨rfl,by show ((a.toNat:Nat):Int)=a;omega,by show ((L.toNat+1:Nat):Int)=L+1;omega,rfl⟩
theorem YH(t:List UInt8)(a L:Int)(bad:Bool)(h0:0<=a)(h2:0<=L)(h:bad=false)(h':¬ 100<L+1):aS t a L bad=xB t (aL t a (L+1)):=by
 unfold aS eZ aL
 rw[a1B (by rw[h];rintro (g|g);cases g;omega),show (100 - (L+1)).toNat=(99 - L).toNat by omega,show (L+1).toNat=L.toNat+1 by omega]
theorem W3(t:List UInt8)(a L:Int)(bad:Bool)(h0:0<=a)(h1:a<=(t.length:Int))(h2:0<=L)(h:bad=false)(h':¬ 100<L+1):(aS t a L bad).e=aP 8 (sE t (aL t a (L+1))) (aL t a (L+1)).e/\((aS t a L bad).a:Int)=((aL t a (L+1)).a:Int)+(sE t (aL t a (L+1)):Int) /\
  ((aS t a L bad).L:Int)=((aL t a (L+1)).L:Int) - 1/\(aS t a L bad).bad=(aL t a (L+1)).bad:=by
 have:=GS t a (L+1) h0 h1 (by omega) (by omega)
 rw[YH t a L bad h0 h2 h h',WH]
 refine⟨rfl,by simp,?_,rfl⟩
 show (((aL t a (L+1)).L - 1:Nat):Int)=_
 omega
theorem ZR(t:List UInt8)(a L:Int)(h0:0<=a)(h1:a<=(t.length:Int))(h2:0<=L)(h3:L<=100):((aL t a L).a:Int)+(sE t (aL t a L):Int)<=(t.length:Int):=by
 have:=GS t a L h0 h1 h2 h3
 have h:=Lg 42 (t.drop (aL t a L).a)
 simp only[a2H] at h
 unfold sE
 split<;>omega
structure Ps(r:RS)(e:M)(a L:Int)(bad:Bool):Prop where
 e:r.e=e
 a:(r.a:Int)=a
 L:(r.L:Int)=L
 bad:r.bad=bad
theorem a0H(t:List UInt8)(a L:Int)(h0:0<=a)(h2:0<=L)(h:bE t a.toNat=48):Ps (aL t a L) (M.mk 1 0 []) (a+1) L false:=by
 unfold aL;rw[jQ,if_pos h]
 exact⟨rfl,by show ((a.toNat+1:Nat):Int)=_;omega,by show ((L.toNat:Nat):Int)=_;omega,rfl⟩
theorem a0I(t:List UInt8)(a L:Int)(h0:0<=a)(h2:0<=L)(h:bE t a.toNat=49):Ps (aL t a L) (M.mk 2 0 []) (a+1) L false:=by
 unfold aL;rw[jQ,if_neg (by rw[h];decide),if_pos h]
 exact⟨rfl,by show ((a.toNat+1:Nat):Int)=_;omega,by show ((L.toNat:Nat):Int)=_;omega,rfl⟩
theorem QU(t:List UInt8)(a L:Int)(h:bE t a.toNat=116\/bE t a.toNat=97):aL t a L=bP t a.toNat L.toNat:=by
 unfold aL;rw[jQ,if_neg (by rcases h with h|h<;>rw[h]<;>decide),if_neg (by rcases h with h|h<;>rw[h]<;>decide),if_pos h]
theorem Xv(t:List UInt8)(a L:Int)(h0:0<=a)(h1:a+1<=(t.length:Int))(h2:0<=L)(h3:¬ 100<L+1)(h:bE t a.toNat=126):Ps (aL t a L) (M.mk 5 0 [(aL t (a+1) (L+1)).e]) ((aL t (a+1) (L+1)).a:Int) (((aL t (a+1) (L+1)).L:Int) - 1) (aL t (a+1) (L+1)).bad:=by
 have hb:=GS t (a+1) (L+1) (by omega) (by omega) (by omega) (by omega)
 have e:aL t a L=⟨M.mk 5 0 [(aL t (a+1) (L+1)).e],(aL t (a+1) (L+1)).a,(aL t (a+1) (L+1)).L - 1,(aL t (a+1) (L+1)).bad⟩:=by
  unfold aL
  obtain⟨g,hg⟩:∃ g,(100 - L).toNat=g+1:=⟨(99 - L).toNat,by omega⟩
  rw[show (100 - (L+1)).toNat=g by omega,show (a+1).toNat=a.toNat+1 by omega,show (L+1).toNat=L.toNat+1 by omega,hg]
  conv=>lhs;rw[jQ]
  rw[a1B (by rw[h];decide),a1B (by rw[h];decide),a1B (by rw[h];decide),a1S h]
 rw[e]
 exact⟨rfl,rfl,by show (((aL t (a+1) (L+1)).L - 1:Nat):Int)=_;omega,rfl⟩
theorem V8(t:List UInt8)(a L:Int)(h0:0<=a)(h2:0<=L)(h3:100<L+1)(h:bE t a.toNat=126):Ps (aL t a L) zX (a+1) (L+1) true:=by
 unfold aL
 rw[show (100 - L).toNat=0 by omega,jQ,a1B (by rw[h];decide),a1B (by rw[h];decide),a1B (by rw[h];decide),a1S h]
 exact⟨rfl,by show ((a.toNat+1:Nat):Int)=_;omega,by show ((L.toNat+1:Nat):Int)=_;omega,rfl⟩
theorem V9(t:List UInt8)(a L:Int)(h0:0<=a)(h2:0<=L)(h:¬ bE t a.toNat=48/\¬ bE t a.toNat=49/\¬ bE t a.toNat=116/\¬ bE t a.toNat=97/\¬ bE t a.toNat=126/\¬ bE t a.toNat=40):Ps (aL t a L) zX a L true:=by
 unfold aL
 rw[jQ,a1B h.1,a1B h.2.1,a1B (by rintro (g|g);exact h.2.2.1 g;exact h.2.2.2.1 g),a1B h.2.2.2.2.1,a1B h.2.2.2.2.2]
 exact⟨rfl,by show ((a.toNat:Nat):Int)=_;omega,by show ((L.toNat:Nat):Int)=_;omega,rfl⟩
def yE(t:List UInt8)(x:RS)(a:Int)(bad:Bool):RS:=aS t a (x.L:Int) bad
theorem Oi(inner:Nat->Nat->RS)(t:List UInt8)(x:RS)(k:Int)(a:Nat)(bad:Bool)(hi:eZ inner t a x.L bad=yE t x (a:Int) bad) :
  Ps (xy inner t x k a bad) (M.mk k 0 [x.e,(yE t x (a:Int) bad).e]) ((bh t (yE t x (a:Int) bad).a 41:Nat):Int) ((yE t x (a:Int) bad).L:Int) (bF t (yE t x (a:Int) bad).a 41 (yE t x (a:Int) bad).bad):=by
 unfold xy
 rw[hi]
 exact⟨rfl,rfl,rfl,rfl⟩
theorem Wa(t:List UInt8)(a L:Int)(h0:0<=a)(h1:a+1<=(t.length:Int))(h2:0<=L)(h3:L<=100)(h:bE t a.toNat=40)(X:RS)(hX:X=aS t (a+1) L false) :
  (bE t (bh t X.a 32)=43->Ps (aL t a L) (M.mk 6 0 [X.e,(yE t X ((bh t (bh t X.a 32+1) 32:Nat):Int) (bF t (bh t X.a 32+1) 32 (bF t X.a 32 X.bad))).e]) ((bh t (yE t X ((bh t (bh t X.a 32+1) 32:Nat):Int) (bF t (bh t X.a 32+1) 32 (bF t X.a 32 X.bad))).a 41:Nat):Int)
   ((yE t X ((bh t (bh t X.a 32+1) 32:Nat):Int) (bF t (bh t X.a 32+1) 32 (bF t X.a 32 X.bad))).L:Int) (bF t (yE t X ((bh t (bh t X.a 32+1) 32:Nat):Int) (bF t (bh t X.a 32+1) 32 (bF t X.a 32 X.bad))).a 41 (yE t X ((bh t (bh t X.a 32+1) 32:Nat):Int) (bF t (bh t X.a 32+1) 32 (bF t X.a 32 X.bad))).bad)) /\
  (¬ bE t (bh t X.a 32)=43->Ps (aL t a L) (M.mk 7 0 [X.e,(yE t X ((bh t X.a 32:Nat):Int) (bF t X.a 32 X.bad)).e]) ((bh t (yE t X ((bh t X.a 32:Nat):Int) (bF t X.a 32 X.bad)).a 41:Nat):Int)
   ((yE t X ((bh t X.a 32:Nat):Int) (bF t X.a 32 X.bad)).L:Int) (bF t (yE t X ((bh t X.a 32:Nat):Int) (bF t X.a 32 X.bad)).a 41 (yE t X ((bh t X.a 32:Nat):Int) (bF t X.a 32 X.bad)).bad)):=by
 have key:∃ inner:Nat->Nat->RS,aL t a L=tN inner t X/\∀ (a:Nat) (bad:Bool),(bad=false->X.bad=false)->eZ inner t a X.L bad=yE t X (a:Int) bad:=by
  have hXd:X.bad=false->X.L=L.toNat:=by
   intro hb
   rw[hX] at hb ⊢
   exact ((rW (cz t (99 - L).toNat) t (a+1).toNat L.toNat false (λ h=>zD t _ _ _ (by omega))).ex hb).1
  by_cases hd:L<100
  .obtain⟨g,hg⟩:∃ g,(100 - L).toNat=g+1:=⟨(99 - L).toNat,by omega⟩
   refine⟨cz t g,?_,λ a' bad hb=>?_⟩
   .have eX:X=eZ (cz t g) t (a.toNat+1) L.toNat false:=by
     rw[hX,aS,show (99 - L).toNat=g by omega,show (a+1).toNat=a.toNat+1 by omega]
    unfold aL
    rw[hg]
    conv=>lhs;rw[jQ]
    rw[a1B (by rw[h];decide),a1B (by rw[h];decide),a1B (by rw[h];decide),a1B (by rw[h];decide),a1S h,eX]
   .unfold yE aS
    rw[a1E,a1E]
    cases bad with
    | true=>rfl
    | false=>rw[hXd (hb rfl),show (99 - (L.toNat:Int)).toNat=g by omega]
  .have hz:(100 - L).toNat=0:=by omega
   refine⟨λ _ _=>⟨zX,0,0,true⟩,?_,λ a' bad hb=>?_⟩
   .have eX:X=eZ (λ _ _=>⟨zX,0,0,true⟩) t (a.toNat+1) L.toNat false:=by
     rw[hX,aS,show (a+1).toNat=a.toNat+1 by omega]
     unfold eZ
     rw[a1S (.inr (by omega)),a1S (.inr (by omega))]
    unfold aL
    rw[hz]
    conv=>lhs;rw[jQ]
    rw[a1B (by rw[h];decide),a1B (by rw[h];decide),a1B (by rw[h];decide),a1B (by rw[h];decide),a1S h,eX]
   .have Zb:L.toNat<=X.L:=by
     have:=uc t (a+1) L false (by omega) (by omega) h2
     rw[<-hX] at this;omega
    unfold yE aS
    rw[a1E,a1E]
    unfold eZ
    rw[a1S (.inr (by omega)),a1S (.inr (by omega))]
 obtain⟨inner,k1,k2⟩:=key
 rw[k1]
 unfold tN
 refine⟨λ hp=>?_,λ hp=>?_⟩
 .rw[a1S hp]
  exact Oi inner t X 6 _ _ (k2 _ _ λ hb=>yV t _ _ _ (yV t _ _ _ hb))
 .rw[a1B hp]
  exact Oi inner t X 7 _ _ (k2 _ _ λ hb=>yV t _ _ _ hb)
theorem Le:∀ (l:List UInt8) (k:Nat),k<=o7 l->(k<o7 l↔∃ b r,l.drop k=b::r/\gm b=true)
 | [],k,h=>by simp[o7]
 | b::l,k,h=>by
  unfold o7 at h ⊢
  split at h
  .rename_i e
   rw[a1S e]
   cases k with
   | zero=>exact⟨λ _=>⟨b,l,rfl,e⟩,λ _=>by omega⟩
   | succ k =>
    have:=Le l k (by omega)
    rw[a4q,<-this];omega
  .rename_i e
   rw[a1B e]
   have hk:k=0:=by omega
   subst hk
   refine⟨λ h=>by omega,λ ⟨c,r,hr,hc⟩=>?_⟩
   simp only[a3Q,a1C] at hr
   rw[hr.1] at e
   exact absurd hc e
theorem XG(t:List UInt8)(n k:Nat)(h:k<=o7 (t.drop n)):(48<=bE t (n+k)/\bE t (n+k)<=57)↔k<o7 (t.drop n):=by
 rw[Le _ k h,a3n]
 constructor
 .intro hp
  have hl:=sI t (n+k) (by omega)
  refine⟨t.getD (n+k) 0,t.drop (n+k+1),?_,?_⟩
  .rw[a3h hl,a2j,a2m hl];rfl
  .unfold bE at hp
   rw[a1S hl] at hp
   unfold gm
   rw[a2v (by omega),a2v (by omega)];rfl
 .rintro⟨b,r,h1,h2⟩
  rw[fH h1]
  simp only[gm,a1z,a1F] at h2
  omega
def nD(t:List UInt8)(a:Int):Nat:=o7 (t.drop (a+1).toNat)
theorem ZH(t:List UInt8)(a:Int)(k:Nat)(h0:0<=a)(h:k<=nD t a):(48<=bE t (a+1+(k:Int)).toNat/\bE t (a+1+(k:Int)).toNat<=57)↔k<nD t a:=by
 rw[show (a+1+(k:Int)).toNat=(a+1).toNat+k by omega]
 exact XG t _ k h
theorem Wm(t:List UInt8)(a:Int)(h0:0<=a)(h1:a+1<=(t.length:Int)):a+1+(nD t a:Int)<=(t.length:Int):=by
 have:=Ld (t.drop (a+1).toNat)
 simp only[a2H] at this
 unfold nD;omega
def Wo(t:List UInt8)(a:Int):List UInt8:=(t.drop (a+1).toNat).take (nD t a)
def vL(t:List UInt8)(a:Int):Int:=if bE t a.toNat=97 then 4 else 3
theorem ZD(t:List UInt8)(a:Int)(h:bE t a.toNat=97):vL t a=4:=a1S h
theorem ZC(t:List UInt8)(a:Int)(h:¬ bE t a.toNat=97):vL t a=3:=a1B h
theorem G8(t:List UInt8)(a L:Int)(h0:0<=a)(h2:0<=L):Ps (bP t a.toNat L.toNat) (M.mk (vL t a) (ia 9 (Wo t a)) []) (a+1+(nD t a:Int)) L (!j9 9 (Wo t a)):=by
 unfold bP Wo Mo nD
 rw[show (a+1).toNat=a.toNat+1 by omega]
 exact⟨rfl,by show ((a.toNat+1+o7 (t.drop (a.toNat+1)):Nat):Int)=_;omega,by show ((L.toNat:Nat):Int)=_;omega,rfl⟩
theorem KG(t:List UInt8)(a:Int)(k:Nat)(h0:0<=a)(h:k=nD t a):(t.take (Int.toNat (a+1+(k:Int)))).drop (Int.toNat (a+1))=Wo t a:=by
 rw[a4K]
 unfold Wo
 congr 1;omega
theorem XL(t:List UInt8)(r:RS)(h:r.bad=true):sE t r=0:=by unfold sE;rw[if_pos h]
theorem ZQ(t:List UInt8)(r:RS)(m:Nat)(h:r.bad=false)(hm:m<=sE t r):bE t ((r.a:Int)+(m:Int)).toNat=42↔m<sE t r:=by
 have e:sE t r=dO 42 (t.drop r.a):=by unfold sE;rw[h];rfl
 rw[e] at hm ⊢
 rw[show ((r.a:Int)+(m:Int)).toNat=r.a+m by omega]
 have key:∀ (l:List UInt8) (k:Nat),k<=dO 42 l->(k<dO 42 l↔∃ r,l.drop k=42::r):=by
  intro l
  induction l with
  | nil=>intro k h;simp[dO]
  | cons b l ih =>
   intro k h
   unfold dO at h ⊢
   split at h
   .rename_i e
    rw[a1S e]
    cases k with
    | zero=>exact⟨λ _=>⟨l,by rw[e];rfl⟩,λ _=>by omega⟩
    | succ k =>
     have:=ih k (by omega)
     rw[a4q,<-this];omega
   .rename_i e
    rw[a1B e]
    have hk:k=0:=by omega
    subst hk
    refine⟨λ h=>by omega,λ ⟨r,hr⟩=>?_⟩
    simp only[a3Q,a1C] at hr
    exact absurd hr.1 e
 rw[key _ m hm,a3n]
 constructor
 .intro hp;exact tj t _ 42 (by decide) hp
 .rintro⟨r,hr⟩;exact fH hr
theorem a0P(t:List UInt8)(a c:Int)(h0:0<=a)(h:bE t a.toNat=c):((bh t a.toNat c:Nat):Int)=a+1/\bF t a.toNat c false=false:=by
 unfold bh bF;rw[if_pos h,if_pos h]
 exact⟨by omega,rfl⟩
def bm:gj:=⟨ma,[[.d .str, .d (.int .i64), .d (.int .i64), .d .bool]],[.b 0],[[.str,(.int .i64),(.int .i64), .bool]],λ (t:List UInt8) (a:Int) (L:Int) (bad:Bool)=>⟨(some (0<=a/\a<=(t.length:Int)/\t.length<=10000),[⟨(.int .u8),bE t a.toNat⟩],[[⟨.str,t⟩,⟨(.int .i64),a⟩,⟨(.int .i64),L⟩,⟨.bool,bad⟩]])⟩⟩
def qy(t:List UInt8)(a:Int)(L:Int)(bad:Bool):Nat->aW:=λ _ => .none
theorem xM(t:List UInt8)(a:Int)(L:Int)(bad:Bool):dd (dr [] [] [] [] []) (aD eF) (qy t a L bad) 0 (ij (dr [] [] [] [] []) eF [[.d .str, .d (.int .i64), .d (.int .i64), .d .bool]] λ r ds=>bR r [⟨(.int .u8),bE t a.toNat⟩]/\jl ds [[⟨.str,t⟩,⟨(.int .i64),a⟩,⟨(.int .i64),L⟩,⟨.bool,bad⟩]]) (cv eF [.box 0] [[.d .str, .d (.int .i64), .d (.int .i64), .d .bool]] [[⟨.str,t⟩,⟨(.int .i64),a⟩,⟨(.int .i64),L⟩,⟨.bool,bad⟩]]) =
 ((ah a ->
 (t.length<=140737488355328 ->
 (ah ((t.length:Int)) ->
 (((decide (a<((t.length:Int))))=true ->
 (t.length<=140737488355328 ->
 (ah a ->
 (aZ a t.length/\((((t.getD (Int.toNat a) 0).toNat:Int))=(bE t a.toNat)/\((t=t/\(a=a/\(L=L/\bad=bad)))/\True))))))/\((decide (a<((t.length:Int))))=false ->
 ((0:Int)=(bE t a.toNat)/\((t=t/\(a=a/\(L=L/\bad=bad)))/\True)))))))):=by kernel_rfl
theorem xr(hE:aR [])(hO:ja [])(hM:iu [])(hS:gO []):gj.Good bm:=by
 refine⟨aB p9 rfl (by decide),?_⟩
 show ∀ (t:List UInt8) (a:Int) (L:Int) (bad:Bool),(0<=a/\a<=(t.length:Int)/\t.length<=10000)->o5 prog ma [[.d .str, .d (.int .i64), .d (.int .i64), .d .bool]] [.box 0] [[⟨.str,t⟩,⟨(.int .i64),a⟩,⟨(.int .i64),L⟩,⟨.bool,bad⟩]] [⟨(.int .u8),bE t a.toNat⟩] [[⟨.str,t⟩,⟨(.int .i64),a⟩,⟨(.int .i64),L⟩,⟨.bool,bad⟩]]
 intro t a L bad hp
 refine fm (own:=[]) (wr:=[]) (cl:=[]) (ro:=[]) hE hO hM hS p9 vH (qy t a L bad) rfl rfl ?_
 rewrite [xM t a L bad]
 refine λ a0=>λ a1=>λ a2=>⟨λ a3=>λ a4=>λ a5=>⟨?_,⟨?_,⟨⟨rfl,⟨rfl,⟨rfl,rfl⟩⟩⟩,trivial⟩⟩⟩,λ a3=>⟨?_,⟨⟨rfl,⟨rfl,⟨rfl,rfl⟩⟩⟩,trivial⟩⟩⟩
 all_goals try and_intros
 all_goals first|rfl|trivial|omega|(simp only[decide_eq_true_eq,decide_eq_false_iff_not,aZ,ah] at *;first|omega|grind [bE,bh,bF])
theorem eo:gj.Good bm:=xr trivial trivial trivial trivial
def fF:gj:=⟨mb,[[.d .str, .d (.int .i64), .d (.int .i64), .d .bool]],[.b 0, .v (.int .u8)],[[.str,(.int .i64),(.int .i64), .bool]],λ (b:Int) (t:List UInt8) (a:Int) (L:Int) (bad:Bool)=>⟨(some (0<=a/\a<=(t.length:Int)/\t.length<=10000),[],[[⟨.str,t⟩,⟨(.int .i64),((bh t a.toNat b:Nat):Int)⟩,⟨(.int .i64),L⟩,⟨.bool,bF t a.toNat b bad⟩]])⟩⟩
def qA(b:Int)(t:List UInt8)(a:Int)(L:Int)(bad:Bool):Nat->aW:=λ _ => .none
theorem xO(b:Int)(t:List UInt8)(a:Int)(L:Int)(bad:Bool):dd (dr [] [] [] [] [] [] [] [bm]) (aD eH) (qA b t a L bad) 0 (ij (dr [] [] [] [] [] [] [] [bm]) eH [[.d .str, .d (.int .i64), .d (.int .i64), .d .bool]] λ r ds=>bR r []/\jl ds [[⟨.str,t⟩,⟨(.int .i64),((bh t a.toNat b:Nat):Int)⟩,⟨(.int .i64),L⟩,⟨.bool,bF t a.toNat b bad⟩]]) (cv eH [.box 0, .val ⟨(.int .u8),b⟩] [[.d .str, .d (.int .i64), .d (.int .i64), .d .bool]] [[⟨.str,t⟩,⟨(.int .i64),a⟩,⟨(.int .i64),L⟩,⟨.bool,bad⟩]]) =
 (((0<=a/\a<=(t.length:Int)/\t.length<=10000)/\(((!(decide ((bE t a.toNat)=b)))=true ->
 (True/\((t=t/\(a=((bh t a.toNat b:Nat):Int)/\(L=L/\true=(bF t a.toNat b bad))))/\True)))/\((!(decide ((bE t a.toNat)=b)))=false ->
 (ah a ->
 (ah (a+(1:Int))/\(True/\((t=t/\((a+(1:Int))=((bh t a.toNat b:Nat):Int)/\(L=L/\bad=(bF t a.toNat b bad))))/\True)))))))):=by kernel_rfl
theorem xv(hE:aR [])(hO:ja [])(hM:iu [])(hS:gO [bm]):gj.Good fF:=by
 refine⟨aB qa rfl (by decide),?_⟩
 show ∀ (b:Int) (t:List UInt8) (a:Int) (L:Int) (bad:Bool),(0<=a/\a<=(t.length:Int)/\t.length<=10000)->o5 prog mb [[.d .str, .d (.int .i64), .d (.int .i64), .d .bool]] [.box 0, .val ⟨(.int .u8),b⟩] [[⟨.str,t⟩,⟨(.int .i64),a⟩,⟨(.int .i64),L⟩,⟨.bool,bad⟩]] [] [[⟨.str,t⟩,⟨(.int .i64),((bh t a.toNat b:Nat):Int)⟩,⟨(.int .i64),L⟩,⟨.bool,bF t a.toNat b bad⟩]]
 intro b t a L bad hp
 refine fm (own:=[]) (wr:=[]) (cl:=[]) (ro:=[]) hE hO hM hS qa vJ (qA b t a L bad) rfl rfl ?_
 rewrite [xO b t a L bad]
 obtain⟨h0,h1,h2⟩:=hp
 by_cases h:bE t a.toNat=b
 .have e1:((bh t a.toNat b:Nat):Int)=a+1:=by unfold bh;rw[if_pos h];omega
  have e2:bF t a.toNat b bad=bad:=by unfold bF;rw[if_pos h]
  simp only[e1,e2,h,a1Y,a1V,a1Q,a1O,a1I,a1G,a1J,a1K,a1R,a1W,ah]
  repeat' (first|intro _|apply And.intro)
  all_goals first|trivial|omega
 .have e1:((bh t a.toNat b:Nat):Int)=a:=by unfold bh;rw[if_neg h];omega
  have e2:bF t a.toNat b bad=true:=by unfold bF;rw[if_neg h]
  simp only[e1,e2,h,a1Y,a1V,a1Q,a1O,a1I,a1G,a1J,a1K,a1R,a1W,ah]
  repeat' (first|intro _|apply And.intro)
  all_goals first|trivial|omega
theorem vu:gj.Good fF:=xv trivial trivial trivial ⟨eo,trivial⟩
def cW:gj:=⟨l7,[[.d .str, .d (.int .i64), .d (.int .i64), .d .bool]],[.b 0],[[.str,(.int .i64),(.int .i64), .bool]],λ (t:List UInt8) (a:Int) (L:Int) (bad:Bool)=>⟨(some (0<=a/\a<=(t.length:Int)/\t.length<=10000/\0<=L/\(bE t a.toNat=116\/bE t a.toNat=97)/\bad=false),[⟨(.st .expr),(bP t a.toNat L.toNat).e⟩],[[⟨.str,t⟩,⟨(.int .i64),((bP t a.toNat L.toNat).a:Int)⟩,⟨(.int .i64),L⟩,⟨.bool,(bP t a.toNat L.toNat).bad⟩]])⟩⟩
def qv(t:List UInt8)(a:Int)(L:Int)(bad:Bool):Nat->aW:=(λ zb=>if Nat.beq zb 0 then .mk (Nat) (λ k=>k<=nD t a) (λ k=>nD t a - k) [] [1,7,8,9,10,11,12,13,14,15,16,17,18,19,20,21,22] (λ k=>[(4, .az ⟨(.int .i64),(a+1:Int)⟩)]) [0,2,4,5,6,23,24,25,26,27,28,29,30,31,32,33,34,35,36,37,38,39,40,41,42,43,44,45,46,47,48,49,50,51,52,53,54,55,56,57,58,59,60,61,62,63,64,65] (λ k=>[(400000, .box [.az ⟨.str,(t:List UInt8)⟩, .az ⟨(.int .i64),(a+1+(k:Int):Int)⟩, .az ⟨(.int .i64),(L:Int)⟩, .az ⟨.bool,(bad:Bool)⟩]),(3, .box [.az ⟨(.int .i64),(vL t a:Int)⟩, .az ⟨(.int .i64),((0:Int):Int)⟩, .nil])]) [] [] (λ k=>λ _ => .none) else .none)
theorem xJ(t:List UInt8)(a:Int)(L:Int)(bad:Bool):dd (dr [jR] [] [] [] [] [] [] [bm]) (aD eB) (qv t a L bad) 0 (ij (dr [jR] [] [] [] [] [] [] [bm]) eB [[.d .str, .d (.int .i64), .d (.int .i64), .d .bool]] λ r ds=>bR r [⟨(.st .expr),(bP t a.toNat L.toNat).e⟩]/\jl ds [[⟨.str,t⟩,⟨(.int .i64),((bP t a.toNat L.toNat).a:Int)⟩,⟨(.int .i64),L⟩,⟨.bool,(bP t a.toNat L.toNat).bad⟩]]) (cv eB [.box 0] [[.d .str, .d (.int .i64), .d (.int .i64), .d .bool]] [[⟨.str,t⟩,⟨(.int .i64),a⟩,⟨(.int .i64),L⟩,⟨.bool,bad⟩]]) =
 (((0<=a/\a<=(t.length:Int)/\t.length<=10000)/\(((decide ((bE t a.toNat)=(97:Int)))=true ->
 (ah a ->
 (ah (a+(1:Int))/\(ah (a+(1:Int)) ->
 ((∃ k1:Nat,(k1<=nD t a/\((True/\(True/\(True/\((a+(1:Int))=(a+1)/\True))))/\((t=t/\((a+(1:Int))=(a+1+(k1:Int))/\(L=L/\(bad=bad/\True))))/\(((4:Int)=(vL t a)/\((0:Int)=(0:Int)/\(True/\True)))/\(((0:Int)=(0:Int)/\((0:Int)=(0:Int)/\(True/\True)))/\True))))))/\(∀ k1:Nat,(k1<=nD t a ->
 ((0<=(a+1+(k1:Int))/\(a+1+(k1:Int))<=(t.length:Int)/\t.length<=10000)/\(((decide ((48:Int)<=(bE t (a+1+(k1:Int)).toNat)))=true ->
 ((0<=(a+1+(k1:Int))/\(a+1+(k1:Int))<=(t.length:Int)/\t.length<=10000)/\(((decide ((bE t (a+1+(k1:Int)).toNat)<=(57:Int)))=true ->
 (ah (a+1+(k1:Int)) ->
 (ah ((a+1+(k1:Int))+(1:Int))/\(∃ k2:Nat,(k2<=nD t a/\(nD t a - k2<nD t a - k1/\((True/\(True/\(True/\((a+1)=(a+1)/\True))))/\((t=t/\(((a+1+(k1:Int))+(1:Int))=(a+1+(k2:Int))/\(L=L/\(bad=bad/\True))))/\(((vL t a)=(vL t a)/\((0:Int)=(0:Int)/\(True/\True)))/\(((0:Int)=(0:Int)/\((0:Int)=(0:Int)/\(True/\True)))/\True))))))))))/\((decide ((bE t (a+1+(k1:Int)).toNat)<=(57:Int)))=false ->
 (eM (a+1) (a+1+(k1:Int)) t.length/\(t.length<=140737488355328 ->
 (ah (a+1+(k1:Int)) ->
 (ah (ia 9 ((t.take (Int.toNat (a+1+(k1:Int)))).drop (Int.toNat (a+1)))) ->
 ((bad=false ->
 ((M.mk (vL t a) (ia 9 ((t.take (Int.toNat (a+1+(k1:Int)))).drop (Int.toNat (a+1)))) [])=((bP t a.toNat L.toNat).e)/\((t=t/\((a+1+(k1:Int))=((bP t a.toNat L.toNat).a:Int)/\(L=L/\(!(j9 9 ((t.take (Int.toNat (a+1+(k1:Int)))).drop (Int.toNat (a+1)))))=((bP t a.toNat L.toNat).bad))))/\True)))/\(bad=(!false) ->
 ((M.mk (vL t a) (ia 9 ((t.take (Int.toNat (a+1+(k1:Int)))).drop (Int.toNat (a+1)))) [])=((bP t a.toNat L.toNat).e)/\((t=t/\((a+1+(k1:Int))=((bP t a.toNat L.toNat).a:Int)/\(L=L/\true=((bP t a.toNat L.toNat).bad))))/\True))))))))))))/\((decide ((48:Int)<=(bE t (a+1+(k1:Int)).toNat)))=(!true) ->
 ((false=true ->
 (ah (a+1+(k1:Int)) ->
 (ah ((a+1+(k1:Int))+(1:Int))/\(∃ k2:Nat,(k2<=nD t a/\(nD t a - k2<nD t a - k1/\((True/\(True/\(True/\((a+1)=(a+1)/\True))))/\((t=t/\(((a+1+(k1:Int))+(1:Int))=(a+1+(k2:Int))/\(L=L/\(bad=bad/\True))))/\(((vL t a)=(vL t a)/\((0:Int)=(0:Int)/\(True/\True)))/\(((0:Int)=(0:Int)/\((0:Int)=(0:Int)/\(True/\True)))/\True))))))))))/\(false=false ->
 (eM (a+1) (a+1+(k1:Int)) t.length/\(t.length<=140737488355328 ->
 (ah (a+1+(k1:Int)) ->
 (ah (ia 9 ((t.take (Int.toNat (a+1+(k1:Int)))).drop (Int.toNat (a+1)))) ->
 ((bad=false ->
 ((M.mk (vL t a) (ia 9 ((t.take (Int.toNat (a+1+(k1:Int)))).drop (Int.toNat (a+1)))) [])=((bP t a.toNat L.toNat).e)/\((t=t/\((a+1+(k1:Int))=((bP t a.toNat L.toNat).a:Int)/\(L=L/\(!(j9 9 ((t.take (Int.toNat (a+1+(k1:Int)))).drop (Int.toNat (a+1)))))=((bP t a.toNat L.toNat).bad))))/\True)))/\(bad=(!false) ->
 ((M.mk (vL t a) (ia 9 ((t.take (Int.toNat (a+1+(k1:Int)))).drop (Int.toNat (a+1)))) [])=((bP t a.toNat L.toNat).e)/\((t=t/\((a+1+(k1:Int))=((bP t a.toNat L.toNat).a:Int)/\(L=L/\true=((bP t a.toNat L.toNat).bad))))/\True))))))))))))))))))))/\((decide ((bE t a.toNat)=(97:Int)))=false ->
 (ah a ->
 (ah (a+(1:Int))/\(ah (a+(1:Int)) ->
 ((∃ k1:Nat,(k1<=nD t a/\((True/\(True/\(True/\((a+(1:Int))=(a+1)/\True))))/\((t=t/\((a+(1:Int))=(a+1+(k1:Int))/\(L=L/\(bad=bad/\True))))/\(((3:Int)=(vL t a)/\((0:Int)=(0:Int)/\(True/\True)))/\(((0:Int)=(0:Int)/\((0:Int)=(0:Int)/\(True/\True)))/\True))))))/\(∀ k1:Nat,(k1<=nD t a ->
 ((0<=(a+1+(k1:Int))/\(a+1+(k1:Int))<=(t.length:Int)/\t.length<=10000)/\(((decide ((48:Int)<=(bE t (a+1+(k1:Int)).toNat)))=true ->
 ((0<=(a+1+(k1:Int))/\(a+1+(k1:Int))<=(t.length:Int)/\t.length<=10000)/\(((decide ((bE t (a+1+(k1:Int)).toNat)<=(57:Int)))=true ->
 (ah (a+1+(k1:Int)) ->
 (ah ((a+1+(k1:Int))+(1:Int))/\(∃ k2:Nat,(k2<=nD t a/\(nD t a - k2<nD t a - k1/\((True/\(True/\(True/\((a+1)=(a+1)/\True))))/\((t=t/\(((a+1+(k1:Int))+(1:Int))=(a+1+(k2:Int))/\(L=L/\(bad=bad/\True))))/\(((vL t a)=(vL t a)/\((0:Int)=(0:Int)/\(True/\True)))/\(((0:Int)=(0:Int)/\((0:Int)=(0:Int)/\(True/\True)))/\True))))))))))/\((decide ((bE t (a+1+(k1:Int)).toNat)<=(57:Int)))=false ->
 (eM (a+1) (a+1+(k1:Int)) t.length/\(t.length<=140737488355328 ->
 (ah (a+1+(k1:Int)) ->
 (ah (ia 9 ((t.take (Int.toNat (a+1+(k1:Int)))).drop (Int.toNat (a+1)))) ->
 ((bad=false ->
 ((M.mk (vL t a) (ia 9 ((t.take (Int.toNat (a+1+(k1:Int)))).drop (Int.toNat (a+1)))) [])=((bP t a.toNat L.toNat).e)/\((t=t/\((a+1+(k1:Int))=((bP t a.toNat L.toNat).a:Int)/\(L=L/\(!(j9 9 ((t.take (Int.toNat (a+1+(k1:Int)))).drop (Int.toNat (a+1)))))=((bP t a.toNat L.toNat).bad))))/\True)))/\(bad=(!false) ->
 ((M.mk (vL t a) (ia 9 ((t.take (Int.toNat (a+1+(k1:Int)))).drop (Int.toNat (a+1)))) [])=((bP t a.toNat L.toNat).e)/\((t=t/\((a+1+(k1:Int))=((bP t a.toNat L.toNat).a:Int)/\(L=L/\true=((bP t a.toNat L.toNat).bad))))/\True))))))))))))/\((decide ((48:Int)<=(bE t (a+1+(k1:Int)).toNat)))=(!true) ->
 ((false=true ->
 (ah (a+1+(k1:Int)) ->
 (ah ((a+1+(k1:Int))+(1:Int))/\(∃ k2:Nat,(k2<=nD t a/\(nD t a - k2<nD t a - k1/\((True/\(True/\(True/\((a+1)=(a+1)/\True))))/\((t=t/\(((a+1+(k1:Int))+(1:Int))=(a+1+(k2:Int))/\(L=L/\(bad=bad/\True))))/\(((vL t a)=(vL t a)/\((0:Int)=(0:Int)/\(True/\True)))/\(((0:Int)=(0:Int)/\((0:Int)=(0:Int)/\(True/\True)))/\True))))))))))/\(false=false ->
 (eM (a+1) (a+1+(k1:Int)) t.length/\(t.length<=140737488355328 ->
 (ah (a+1+(k1:Int)) ->
 (ah (ia 9 ((t.take (Int.toNat (a+1+(k1:Int)))).drop (Int.toNat (a+1)))) ->
 ((bad=false ->
 ((M.mk (vL t a) (ia 9 ((t.take (Int.toNat (a+1+(k1:Int)))).drop (Int.toNat (a+1)))) [])=((bP t a.toNat L.toNat).e)/\((t=t/\((a+1+(k1:Int))=((bP t a.toNat L.toNat).a:Int)/\(L=L/\(!(j9 9 ((t.take (Int.toNat (a+1+(k1:Int)))).drop (Int.toNat (a+1)))))=((bP t a.toNat L.toNat).bad))))/\True)))/\(bad=(!false) ->
 ((M.mk (vL t a) (ia 9 ((t.take (Int.toNat (a+1+(k1:Int)))).drop (Int.toNat (a+1)))) [])=((bP t a.toNat L.toNat).e)/\((t=t/\((a+1+(k1:Int))=((bP t a.toNat L.toNat).a:Int)/\(L=L/\true=((bP t a.toNat L.toNat).bad))))/\True))))))))))))))))))))))):=by kernel_rfl
theorem xo(hE:aR [jR])(hO:ja [])(hM:iu [])(hS:gO [bm]):gj.Good cW:=by
 refine⟨aB p7 rfl (by decide),?_⟩
 show ∀ (t:List UInt8) (a:Int) (L:Int) (bad:Bool),(0<=a/\a<=(t.length:Int)/\t.length<=10000/\0<=L/\(bE t a.toNat=116\/bE t a.toNat=97)/\bad=false)->o5 prog l7 [[.d .str, .d (.int .i64), .d (.int .i64), .d .bool]] [.box 0] [[⟨.str,t⟩,⟨(.int .i64),a⟩,⟨(.int .i64),L⟩,⟨.bool,bad⟩]] [⟨(.st .expr),(bP t a.toNat L.toNat).e⟩] [[⟨.str,t⟩,⟨(.int .i64),((bP t a.toNat L.toNat).a:Int)⟩,⟨(.int .i64),L⟩,⟨.bool,(bP t a.toNat L.toNat).bad⟩]]
 intro t a L bad hp
 refine fm (own:=[]) (wr:=[]) (cl:=[]) (ro:=[]) hE hO hM hS p7 vE (qv t a L bad) rfl rfl ?_
 rewrite [xJ t a L bad]
 obtain⟨h0,h1,h2,h3,h4,h5⟩:=hp
 subst h5
 have l0:=sI t a.toNat (by omega)
 obtain⟨q1,q2,q3,q4⟩:=G8 t a L h0 h3
 have z:=λ k h=>ZH t a k h0 h
 have b:=Wm t a h0 (by omega)
 simp only[q1,q2,q4,eM,a1Y,a1V,a1Q,a1O,a1I,a1G,a1J,a1K,a1R,a1W,a1H,a1Z,a1E,ah,aG]
 repeat' (first|intro _|apply And.intro)
 all_goals (try simp only[a1F,a1L] at *)
 all_goals first|exact True.intro|omega|with_reducible rfl|exact⟨0,a3g _,by omega,(ZD t a (by omega)).symm⟩|exact⟨0,a3g _,by omega,(ZC t a (by omega)).symm⟩|(rename_i k1 _ _ _ _;have g:=z k1 (by assumption);first|omega|exact⟨k1+1,by omega,by omega,by omega⟩|rw[KG t a k1 h0 (by omega)])|(rename_i k1 _ _ _ _ _;have g:=z k1 (by assumption);first|omega|exact⟨k1+1,by omega,by omega,by omega⟩|rw[KG t a k1 h0 (by omega)])|(rename_i k1 _ _ _ _ _ _;have g:=z k1 (by assumption);first|omega|exact⟨k1+1,by omega,by omega,by omega⟩|rw[KG t a k1 h0 (by omega)])|(rename_i k1 _ _ _ _ _ _ _;have g:=z k1 (by assumption);first|omega|exact⟨k1+1,by omega,by omega,by omega⟩|rw[KG t a k1 h0 (by omega)])
theorem nQ:gj.Good cW:=xo ⟨BJ,trivial⟩ trivial trivial ⟨eo,trivial⟩
def cI(n:Nat):gj:=⟨lA,[[.d .str, .d (.int .i64), .d (.int .i64), .d .bool]],[.b 0],[[.str,(.int .i64),(.int .i64), .bool]],λ (t:List UInt8) (a:Int) (L:Int) (bad:Bool)=>⟨(some (3 * (101 - L).toNat+2<n/\0<=a/\a<=(t.length:Int)/\t.length<=10000/\0<=L/\L<=100/\bad=false),[⟨(.st .expr),(aL t a L).e⟩],[[⟨.str,t⟩,⟨(.int .i64),((aL t a L).a:Int)⟩,⟨(.int .i64),((aL t a L).L:Int)⟩,⟨.bool,(aL t a L).bad⟩]])⟩⟩
def fb(n:Nat):gj:=⟨l9,[[.d .str, .d (.int .i64), .d (.int .i64), .d .bool]],[.b 0],[[.str,(.int .i64),(.int .i64), .bool]],λ (t:List UInt8) (a:Int) (L:Int) (bad:Bool)=>⟨(some (3 * (101 - L).toNat+1<n/\0<=a/\a<=(t.length:Int)/\t.length<=10000/\0<=L/\L<=100/\bad=false/\bE t a.toNat=40),[⟨(.st .expr),(aL t a L).e⟩],[[⟨.str,t⟩,⟨(.int .i64),((aL t a L).a:Int)⟩,⟨(.int .i64),((aL t a L).L:Int)⟩,⟨.bool,(aL t a L).bad⟩]])⟩⟩
def e9(n:Nat):gj:=⟨iE,[[.d .str, .d (.int .i64), .d (.int .i64), .d .bool]],[.b 0],[[.str,(.int .i64),(.int .i64), .bool]],λ (t:List UInt8) (a:Int) (L:Int) (bad:Bool)=>⟨(some (3 * (101 - L).toNat<n/\0<=a/\a<=(t.length:Int)/\t.length<=10000/\0<=L/\L<=1000),[⟨(.st .expr),(aS t a L bad).e⟩],[[⟨.str,t⟩,⟨(.int .i64),((aS t a L bad).a:Int)⟩,⟨(.int .i64),((aS t a L bad).L:Int)⟩,⟨.bool,(aS t a L bad).bad⟩]])⟩⟩
def hJ:gj:=⟨iE,[[.d .str, .d (.int .i64), .d (.int .i64), .d .bool]],[.b 0],[[.str,(.int .i64),(.int .i64), .bool]],λ (t:List UInt8) (a:Int) (L:Int) (bad:Bool)=>⟨(some (0<=a/\a<=(t.length:Int)/\t.length<=10000/\0<=L/\L<=1000),[⟨(.st .expr),(aS t a L bad).e⟩],[[⟨.str,t⟩,⟨(.int .i64),((aS t a L bad).a:Int)⟩,⟨(.int .i64),((aS t a L bad).L:Int)⟩,⟨.bool,(aS t a L bad).bad⟩]])⟩⟩
def ph(t:List UInt8)(a:Int)(L:Int)(bad:Bool):Nat->aW:=λ _ => .none
theorem vO(n:Nat)(t:List UInt8)(a:Int)(L:Int)(bad:Bool):dd (dr [] [] [] [30,57,66,71] [] [] [] [bm,cW,fb n,cI n]) (aD dY) (ph t a L bad) 0 (ij (dr [] [] [] [30,57,66,71] [] [] [] [bm,cW,fb n,cI n]) dY [[.d .str, .d (.int .i64), .d (.int .i64), .d .bool]] λ r ds=>bR r [⟨(.st .expr),(aL t a L).e⟩]/\jl ds [[⟨.str,t⟩,⟨(.int .i64),((aL t a L).a:Int)⟩,⟨(.int .i64),((aL t a L).L:Int)⟩,⟨.bool,(aL t a L).bad⟩]]) (cv dY [.box 0] [[.d .str, .d (.int .i64), .d (.int .i64), .d .bool]] [[⟨.str,t⟩,⟨(.int .i64),a⟩,⟨(.int .i64),L⟩,⟨.bool,bad⟩]]) =
 (((0<=a/\a<=(t.length:Int)/\t.length<=10000)/\(((decide ((bE t a.toNat)=(48:Int)))=true ->
 (ah a ->
 (ah (a+(1:Int))/\((M.mk (1:Int) (0:Int) [])=((aL t a L).e)/\((t=t/\((a+(1:Int))=((aL t a L).a:Int)/\(L=((aL t a L).L:Int)/\bad=((aL t a L).bad))))/\True)))))/\((decide ((bE t a.toNat)=(48:Int)))=false ->
 (((decide ((bE t a.toNat)=(49:Int)))=true ->
 (ah a ->
 (ah (a+(1:Int))/\((M.mk (2:Int) (0:Int) [])=((aL t a L).e)/\((t=t/\((a+(1:Int))=((aL t a L).a:Int)/\(L=((aL t a L).L:Int)/\bad=((aL t a L).bad))))/\True)))))/\((decide ((bE t a.toNat)=(49:Int)))=false ->
 (((decide ((bE t a.toNat)=(116:Int)))=true ->
 (((decide ((bE t a.toNat)=(116:Int)))=true ->
 ((0<=a/\a<=(t.length:Int)/\t.length<=10000/\0<=L/\(bE t a.toNat=116\/bE t a.toNat=97)/\bad=false)/\((bH ((bP t a.toNat L.toNat).e))=((aL t a L).e)/\((t=t/\((((bP t a.toNat L.toNat).a:Int))=((aL t a L).a:Int)/\(L=((aL t a L).L:Int)/\((bP t a.toNat L.toNat).bad)=((aL t a L).bad))))/\True))))/\((decide ((bE t a.toNat)=(116:Int)))=false ->
 (((decide ((bE t a.toNat)=(126:Int)))=true ->
 (ah a ->
 (ah (a+(1:Int))/\(ah L ->
 (ah (L+(1:Int))/\(ah (L+(1:Int)) ->
 (((decide ((100:Int)<(L+(1:Int))))=true ->
 (zE=((aL t a L).e)/\((t=t/\((a+(1:Int))=((aL t a L).a:Int)/\((L+(1:Int))=((aL t a L).L:Int)/\true=((aL t a L).bad))))/\True)))/\((decide ((100:Int)<(L+(1:Int))))=false ->
 ((3 * (101 - (L+(1:Int))).toNat+2<n/\0<=(a+(1:Int))/\(a+(1:Int))<=(t.length:Int)/\t.length<=10000/\0<=(L+(1:Int))/\(L+(1:Int))<=100/\bad=false)/\(ah (((aL t (a+(1:Int)) (L+(1:Int))).L:Int)) ->
 (ah ((((aL t (a+(1:Int)) (L+(1:Int))).L:Int)) - (1:Int))/\((M.mk (5:Int) (0:Int) ([(bH ((aL t (a+(1:Int)) (L+(1:Int))).e))]))=((aL t a L).e)/\((t=t/\((((aL t (a+(1:Int)) (L+(1:Int))).a:Int))=((aL t a L).a:Int)/\(((((aL t (a+(1:Int)) (L+(1:Int))).L:Int)) - (1:Int))=((aL t a L).L:Int)/\((aL t (a+(1:Int)) (L+(1:Int))).bad)=((aL t a L).bad))))/\True)))))))))))))/\((decide ((bE t a.toNat)=(126:Int)))=false ->
 (((decide ((bE t a.toNat)=(40:Int)))=true ->
 ((3 * (101 - L).toNat+1<n/\0<=a/\a<=(t.length:Int)/\t.length<=10000/\0<=L/\L<=100/\bad=false/\bE t a.toNat=40)/\((bH ((aL t a L).e))=((aL t a L).e)/\((t=t/\((((aL t a L).a:Int))=((aL t a L).a:Int)/\((((aL t a L).L:Int))=((aL t a L).L:Int)/\((aL t a L).bad)=((aL t a L).bad))))/\True))))/\((decide ((bE t a.toNat)=(40:Int)))=false ->
 (zE=((aL t a L).e)/\((t=t/\(a=((aL t a L).a:Int)/\(L=((aL t a L).L:Int)/\true=((aL t a L).bad))))/\True)))))))))/\((decide ((bE t a.toNat)=(116:Int)))=false ->
 (((decide ((bE t a.toNat)=(97:Int)))=true ->
 ((0<=a/\a<=(t.length:Int)/\t.length<=10000/\0<=L/\(bE t a.toNat=116\/bE t a.toNat=97)/\bad=false)/\((bH ((bP t a.toNat L.toNat).e))=((aL t a L).e)/\((t=t/\((((bP t a.toNat L.toNat).a:Int))=((aL t a L).a:Int)/\(L=((aL t a L).L:Int)/\((bP t a.toNat L.toNat).bad)=((aL t a L).bad))))/\True))))/\((decide ((bE t a.toNat)=(97:Int)))=false ->
 (((decide ((bE t a.toNat)=(126:Int)))=true ->
 (ah a ->
 (ah (a+(1:Int))/\(ah L ->
 (ah (L+(1:Int))/\(ah (L+(1:Int)) ->
 (((decide ((100:Int)<(L+(1:Int))))=true ->
 (zE=((aL t a L).e)/\((t=t/\((a+(1:Int))=((aL t a L).a:Int)/\((L+(1:Int))=((aL t a L).L:Int)/\true=((aL t a L).bad))))/\True)))/\((decide ((100:Int)<(L+(1:Int))))=false ->
 ((3 * (101 - (L+(1:Int))).toNat+2<n/\0<=(a+(1:Int))/\(a+(1:Int))<=(t.length:Int)/\t.length<=10000/\0<=(L+(1:Int))/\(L+(1:Int))<=100/\bad=false)/\(ah (((aL t (a+(1:Int)) (L+(1:Int))).L:Int)) ->
 (ah ((((aL t (a+(1:Int)) (L+(1:Int))).L:Int)) - (1:Int))/\((M.mk (5:Int) (0:Int) ([(bH ((aL t (a+(1:Int)) (L+(1:Int))).e))]))=((aL t a L).e)/\((t=t/\((((aL t (a+(1:Int)) (L+(1:Int))).a:Int))=((aL t a L).a:Int)/\(((((aL t (a+(1:Int)) (L+(1:Int))).L:Int)) - (1:Int))=((aL t a L).L:Int)/\((aL t (a+(1:Int)) (L+(1:Int))).bad)=((aL t a L).bad))))/\True)))))))))))))/\((decide ((bE t a.toNat)=(126:Int)))=false ->
 (((decide ((bE t a.toNat)=(40:Int)))=true ->
 ((3 * (101 - L).toNat+1<n/\0<=a/\a<=(t.length:Int)/\t.length<=10000/\0<=L/\L<=100/\bad=false/\bE t a.toNat=40)/\((bH ((aL t a L).e))=((aL t a L).e)/\((t=t/\((((aL t a L).a:Int))=((aL t a L).a:Int)/\((((aL t a L).L:Int))=((aL t a L).L:Int)/\((aL t a L).bad)=((aL t a L).bad))))/\True))))/\((decide ((bE t a.toNat)=(40:Int)))=false ->
 (zE=((aL t a L).e)/\((t=t/\(a=((aL t a L).a:Int)/\(L=((aL t a L).L:Int)/\true=((aL t a L).bad))))/\True)))))))))))))))):=by kernel_rfl
theorem vM(n:Nat)(hE:aR [])(hO:ja [])(hM:iu [])(hS:gO [bm,cW,fb n,cI n]):gj.Good (cI (n+1)):=by
 refine⟨aB kh rfl (by decide),?_⟩
 show ∀ (t:List UInt8) (a:Int) (L:Int) (bad:Bool),(3 * (101 - L).toNat+2<n+1/\0<=a/\a<=(t.length:Int)/\t.length<=10000/\0<=L/\L<=100/\bad=false)->o5 prog lA [[.d .str, .d (.int .i64), .d (.int .i64), .d .bool]] [.box 0] [[⟨.str,t⟩,⟨(.int .i64),a⟩,⟨(.int .i64),L⟩,⟨.bool,bad⟩]] [⟨(.st .expr),(aL t a L).e⟩] [[⟨.str,t⟩,⟨(.int .i64),((aL t a L).a:Int)⟩,⟨(.int .i64),((aL t a L).L:Int)⟩,⟨.bool,(aL t a L).bad⟩]]
 intro t a L bad hp
 refine fm (own:=[30,57,66,71]) (wr:=[]) (cl:=[]) (ro:=[]) hE hO hM hS kh uC (ph t a L bad) rfl rfl ?_
 rewrite [vO n t a L bad]
 obtain⟨hm,h0,h1,h2,h3,h4,h5⟩:=hp
 subst h5
 by_cases w8:bE t a.toNat=48
 .have l0:=sI t a.toNat (by rw[w8];decide)
  obtain⟨q1,q2,q3,q4⟩:=a0H t a L h0 h3 w8
  simp only[a2v w8,(a1P (by omega):decide (bE t a.toNat=(49:Int))=false),(a1P (by omega):decide (bE t a.toNat=(116:Int))=false),(a1P (by omega):decide (bE t a.toNat=(97:Int))=false),(a1P (by omega):decide (bE t a.toNat=(126:Int))=false),(a1P (by omega):decide (bE t a.toNat=(40:Int))=false),q1,q2,q3,q4,a1Y,a1V,a1Q,a1O,a1I,a1G,a1J,a1K,a1R,a1W,a1H,a1Z,a1E,ah,aG]
  repeat' (first|intro _|apply And.intro)
  all_goals first|exact True.intro|omega|with_reducible rfl
 .by_cases zq:bE t a.toNat=49
  .have l0:=sI t a.toNat (by rw[zq];decide)
   obtain⟨q1,q2,q3,q4⟩:=a0I t a L h0 h3 zq
   simp only[(a1P (by omega):decide (bE t a.toNat=(48:Int))=false),a2v zq,(a1P (by omega):decide (bE t a.toNat=(116:Int))=false),(a1P (by omega):decide (bE t a.toNat=(97:Int))=false),(a1P (by omega):decide (bE t a.toNat=(126:Int))=false),(a1P (by omega):decide (bE t a.toNat=(40:Int))=false),q1,q2,q3,q4,a1Y,a1V,a1Q,a1O,a1I,a1G,a1J,a1K,a1R,a1W,a1H,a1Z,a1E,ah,aG]
   repeat' (first|intro _|apply And.intro)
   all_goals first|exact True.intro|omega|with_reducible rfl
  .by_cases tP:bE t a.toNat=116
   .obtain⟨q1,q2,q3,q4⟩:=G8 t a L h0 h3
    simp only[QU t a L (.inl tP),(a1P (by omega):decide (bE t a.toNat=(48:Int))=false),(a1P (by omega):decide (bE t a.toNat=(49:Int))=false),a2v tP,(a1P (by omega):decide (bE t a.toNat=(97:Int))=false),(a1P (by omega):decide (bE t a.toNat=(126:Int))=false),(a1P (by omega):decide (bE t a.toNat=(40:Int))=false),q3,a1Y,a1V,a1Q,a1O,a1I,a1G,a1J,a1K,a1R,a1W,a1H,a1Z,a1E,ah,aG]
    repeat' (first|intro _|apply And.intro)
    all_goals first|exact True.intro|omega|with_reducible rfl
   .by_cases Gg:bE t a.toNat=97
    .obtain⟨q1,q2,q3,q4⟩:=G8 t a L h0 h3
     simp only[QU t a L (.inr Gg),(a1P (by omega):decide (bE t a.toNat=(48:Int))=false),(a1P (by omega):decide (bE t a.toNat=(49:Int))=false),(a1P (by omega):decide (bE t a.toNat=(116:Int))=false),a2v Gg,(a1P (by omega):decide (bE t a.toNat=(126:Int))=false),(a1P (by omega):decide (bE t a.toNat=(40:Int))=false),q3,a1Y,a1V,a1Q,a1O,a1I,a1G,a1J,a1K,a1R,a1W,a1H,a1Z,a1E,ah,aG]
     repeat' (first|intro _|apply And.intro)
     all_goals first|exact True.intro|omega|with_reducible rfl
    .by_cases NL:bE t a.toNat=126
     .have l0:=sI t a.toNat (by rw[NL];decide)
      by_cases hd:100<L+1
      .obtain⟨q1,q2,q3,q4⟩:=V8 t a L h0 h3 hd NL
       simp only[hd,(a1P (by omega):decide (bE t a.toNat=(48:Int))=false),(a1P (by omega):decide (bE t a.toNat=(49:Int))=false),(a1P (by omega):decide (bE t a.toNat=(116:Int))=false),(a1P (by omega):decide (bE t a.toNat=(97:Int))=false),a2v NL,(a1P (by omega):decide (bE t a.toNat=(40:Int))=false),q1,q2,q3,q4,a1Y,a1V,a1Q,a1O,a1I,a1G,a1J,a1K,a1R,a1W,a1H,a1Z,a1E,ah,aG]
       repeat' (first|intro _|apply And.intro)
       all_goals first|exact True.intro|omega|with_reducible rfl
      .obtain⟨q1,q2,q3,q4⟩:=Xv t a L h0 (by omega) h3 hd NL
       have b1:=GS t (a+1) (L+1) (by omega) (by omega) (by omega) (by omega)
       simp only[hd,(a1P (by omega):decide (bE t a.toNat=(48:Int))=false),(a1P (by omega):decide (bE t a.toNat=(49:Int))=false),(a1P (by omega):decide (bE t a.toNat=(116:Int))=false),(a1P (by omega):decide (bE t a.toNat=(97:Int))=false),a2v NL,(a1P (by omega):decide (bE t a.toNat=(40:Int))=false),q1,q2,q3,q4,a1Y,a1V,a1Q,a1O,a1I,a1G,a1J,a1K,a1R,a1W,a1H,a1Z,a1E,ah,aG]
       repeat' (first|intro _|apply And.intro)
       all_goals first|exact True.intro|omega|with_reducible rfl
     .by_cases Lk:bE t a.toNat=40
      .simp only[(a1P (by omega):decide (bE t a.toNat=(48:Int))=false),(a1P (by omega):decide (bE t a.toNat=(49:Int))=false),(a1P (by omega):decide (bE t a.toNat=(116:Int))=false),(a1P (by omega):decide (bE t a.toNat=(97:Int))=false),(a1P (by omega):decide (bE t a.toNat=(126:Int))=false),a2v Lk,a1Y,a1V,a1Q,a1O,a1I,a1G,a1J,a1K,a1R,a1W,a1H,a1Z,a1E,ah,aG]
       repeat' (first|intro _|apply And.intro)
       all_goals first|exact True.intro|omega|with_reducible rfl
      .obtain⟨q1,q2,q3,q4⟩:=V9 t a L h0 h3 ⟨w8,zq,tP,Gg,NL,Lk⟩
       simp only[(a1P (by omega):decide (bE t a.toNat=(48:Int))=false),(a1P (by omega):decide (bE t a.toNat=(49:Int))=false),(a1P (by omega):decide (bE t a.toNat=(116:Int))=false),(a1P (by omega):decide (bE t a.toNat=(97:Int))=false),(a1P (by omega):decide (bE t a.toNat=(126:Int))=false),(a1P (by omega):decide (bE t a.toNat=(40:Int))=false),q1,q2,q3,q4,a1Y,a1V,a1Q,a1O,a1I,a1G,a1J,a1K,a1R,a1W,a1H,a1Z,a1E,ah,aG]
       repeat' (first|intro _|apply And.intro)
       all_goals first|exact True.intro|omega|with_reducible rfl
def qx(t:List UInt8)(a:Int)(L:Int)(bad:Bool):Nat->aW:=λ _ => .none
theorem xL(n:Nat)(t:List UInt8)(a:Int)(L:Int)(bad:Bool):dd (dr [] [] [] [9,27,32] [] [] [] [bm,fF,e9 n]) (aD eE) (qx t a L bad) 0 (ij (dr [] [] [] [9,27,32] [] [] [] [bm,fF,e9 n]) eE [[.d .str, .d (.int .i64), .d (.int .i64), .d .bool]] λ r ds=>bR r [⟨(.st .expr),(aL t a L).e⟩]/\jl ds [[⟨.str,t⟩,⟨(.int .i64),((aL t a L).a:Int)⟩,⟨(.int .i64),((aL t a L).L:Int)⟩,⟨.bool,(aL t a L).bad⟩]]) (cv eE [.box 0] [[.d .str, .d (.int .i64), .d (.int .i64), .d .bool]] [[⟨.str,t⟩,⟨(.int .i64),a⟩,⟨(.int .i64),L⟩,⟨.bool,bad⟩]]) =
 (((0<=a/\a<=(t.length:Int)/\t.length<=10000)/\((3 * (101 - L).toNat<n/\0<=(((bh t a.toNat (40:Int):Nat):Int))/\(((bh t a.toNat (40:Int):Nat):Int))<=(t.length:Int)/\t.length<=10000/\0<=L/\L<=1000)/\((0<=(((aS t (((bh t a.toNat (40:Int):Nat):Int)) L (bF t a.toNat (40:Int) bad)).a:Int))/\(((aS t (((bh t a.toNat (40:Int):Nat):Int)) L (bF t a.toNat (40:Int) bad)).a:Int))<=(t.length:Int)/\t.length<=10000)/\((0<=(((bh t (((aS t (((bh t a.toNat (40:Int):Nat):Int)) L (bF t a.toNat (40:Int) bad)).a:Int)).toNat (32:Int):Nat):Int))/\(((bh t (((aS t (((bh t a.toNat (40:Int):Nat):Int)) L (bF t a.toNat (40:Int) bad)).a:Int)).toNat (32:Int):Nat):Int))<=(t.length:Int)/\t.length<=10000)/\(((decide ((bE t (((bh t (((aS t (((bh t a.toNat (40:Int):Nat):Int)) L (bF t a.toNat (40:Int) bad)).a:Int)).toNat (32:Int):Nat):Int)).toNat)=(43:Int)))=true ->
 (ah (((bh t (((aS t (((bh t a.toNat (40:Int):Nat):Int)) L (bF t a.toNat (40:Int) bad)).a:Int)).toNat (32:Int):Nat):Int)) ->
 (ah ((((bh t (((aS t (((bh t a.toNat (40:Int):Nat):Int)) L (bF t a.toNat (40:Int) bad)).a:Int)).toNat (32:Int):Nat):Int))+(1:Int))/\((0<=((((bh t (((aS t (((bh t a.toNat (40:Int):Nat):Int)) L (bF t a.toNat (40:Int) bad)).a:Int)).toNat (32:Int):Nat):Int))+(1:Int))/\((((bh t (((aS t (((bh t a.toNat (40:Int):Nat):Int)) L (bF t a.toNat (40:Int) bad)).a:Int)).toNat (32:Int):Nat):Int))+(1:Int))<=(t.length:Int)/\t.length<=10000)/\((3 * (101 - (((aS t (((bh t a.toNat (40:Int):Nat):Int)) L (bF t a.toNat (40:Int) bad)).L:Int))).toNat<n/\0<=(((bh t ((((bh t (((aS t (((bh t a.toNat (40:Int):Nat):Int)) L (bF t a.toNat (40:Int) bad)).a:Int)).toNat (32:Int):Nat):Int))+(1:Int)).toNat (32:Int):Nat):Int))/\(((bh t ((((bh t (((aS t (((bh t a.toNat (40:Int):Nat):Int)) L (bF t a.toNat (40:Int) bad)).a:Int)).toNat (32:Int):Nat):Int))+(1:Int)).toNat (32:Int):Nat):Int))<=(t.length:Int)/\t.length<=10000/\0<=(((aS t (((bh t a.toNat (40:Int):Nat):Int)) L (bF t a.toNat (40:Int) bad)).L:Int))/\(((aS t (((bh t a.toNat (40:Int):Nat):Int)) L (bF t a.toNat (40:Int) bad)).L:Int))<=1000)/\((0<=(((aS t (((bh t ((((bh t (((aS t (((bh t a.toNat (40:Int):Nat):Int)) L (bF t a.toNat (40:Int) bad)).a:Int)).toNat (32:Int):Nat):Int))+(1:Int)).toNat (32:Int):Nat):Int)) (((aS t (((bh t a.toNat (40:Int):Nat):Int)) L (bF t a.toNat (40:Int) bad)).L:Int)) (bF t ((((bh t (((aS t (((bh t a.toNat (40:Int):Nat):Int)) L (bF t a.toNat (40:Int) bad)).a:Int)).toNat (32:Int):Nat):Int))+(1:Int)).toNat (32:Int) (bF t (((aS t (((bh t a.toNat (40:Int):Nat):Int)) L (bF t a.toNat (40:Int) bad)).a:Int)).toNat (32:Int) ((aS t (((bh t a.toNat (40:Int):Nat):Int)) L (bF t a.toNat (40:Int) bad)).bad)))).a:Int))/\(((aS t (((bh t ((((bh t (((aS t (((bh t a.toNat (40:Int):Nat):Int)) L (bF t a.toNat (40:Int) bad)).a:Int)).toNat (32:Int):Nat):Int))+(1:Int)).toNat (32:Int):Nat):Int)) (((aS t (((bh t a.toNat (40:Int):Nat):Int)) L (bF t a.toNat (40:Int) bad)).L:Int)) (bF t ((((bh t (((aS t (((bh t a.toNat (40:Int):Nat):Int)) L (bF t a.toNat (40:Int) bad)).a:Int)).toNat (32:Int):Nat):Int))+(1:Int)).toNat (32:Int) (bF t (((aS t (((bh t a.toNat (40:Int):Nat):Int)) L (bF t a.toNat (40:Int) bad)).a:Int)).toNat (32:Int) ((aS t (((bh t a.toNat (40:Int):Nat):Int)) L (bF t a.toNat (40:Int) bad)).bad)))).a:Int))<=(t.length:Int)/\t.length<=10000)/\((M.mk (6:Int) (0:Int) ([(bH ((aS t (((bh t a.toNat (40:Int):Nat):Int)) L (bF t a.toNat (40:Int) bad)).e)),(bH ((aS t (((bh t ((((bh t (((aS t (((bh t a.toNat (40:Int):Nat):Int)) L (bF t a.toNat (40:Int) bad)).a:Int)).toNat (32:Int):Nat):Int))+(1:Int)).toNat (32:Int):Nat):Int)) (((aS t (((bh t a.toNat (40:Int):Nat):Int)) L (bF t a.toNat (40:Int) bad)).L:Int)) (bF t ((((bh t (((aS t (((bh t a.toNat (40:Int):Nat):Int)) L (bF t a.toNat (40:Int) bad)).a:Int)).toNat (32:Int):Nat):Int))+(1:Int)).toNat (32:Int) (bF t (((aS t (((bh t a.toNat (40:Int):Nat):Int)) L (bF t a.toNat (40:Int) bad)).a:Int)).toNat (32:Int) ((aS t (((bh t a.toNat (40:Int):Nat):Int)) L (bF t a.toNat (40:Int) bad)).bad)))).e))]))=((aL t a L).e)/\((t=t/\((((bh t (((aS t (((bh t ((((bh t (((aS t (((bh t a.toNat (40:Int):Nat):Int)) L (bF t a.toNat (40:Int) bad)).a:Int)).toNat (32:Int):Nat):Int))+(1:Int)).toNat (32:Int):Nat):Int)) (((aS t (((bh t a.toNat (40:Int):Nat):Int)) L (bF t a.toNat (40:Int) bad)).L:Int)) (bF t ((((bh t (((aS t (((bh t a.toNat (40:Int):Nat):Int)) L (bF t a.toNat (40:Int) bad)).a:Int)).toNat (32:Int):Nat):Int))+(1:Int)).toNat (32:Int) (bF t (((aS t (((bh t a.toNat (40:Int):Nat):Int)) L (bF t a.toNat (40:Int) bad)).a:Int)).toNat (32:Int) ((aS t (((bh t a.toNat (40:Int):Nat):Int)) L (bF t a.toNat (40:Int) bad)).bad)))).a:Int)).toNat (41:Int):Nat):Int))=((aL t a L).a:Int)/\((((aS t (((bh t ((((bh t (((aS t (((bh t a.toNat (40:Int):Nat):Int)) L (bF t a.toNat (40:Int) bad)).a:Int)).toNat (32:Int):Nat):Int))+(1:Int)).toNat (32:Int):Nat):Int)) (((aS t (((bh t a.toNat (40:Int):Nat):Int)) L (bF t a.toNat (40:Int) bad)).L:Int)) (bF t ((((bh t (((aS t (((bh t a.toNat (40:Int):Nat):Int)) L (bF t a.toNat (40:Int) bad)).a:Int)).toNat (32:Int):Nat):Int))+(1:Int)).toNat (32:Int) (bF t (((aS t (((bh t a.toNat (40:Int):Nat):Int)) L (bF t a.toNat (40:Int) bad)).a:Int)).toNat (32:Int) ((aS t (((bh t a.toNat (40:Int):Nat):Int)) L (bF t a.toNat (40:Int) bad)).bad)))).L:Int))=((aL t a L).L:Int)/\(bF t (((aS t (((bh t ((((bh t (((aS t (((bh t a.toNat (40:Int):Nat):Int)) L (bF t a.toNat (40:Int) bad)).a:Int)).toNat (32:Int):Nat):Int))+(1:Int)).toNat (32:Int):Nat):Int)) (((aS t (((bh t a.toNat (40:Int):Nat):Int)) L (bF t a.toNat (40:Int) bad)).L:Int)) (bF t ((((bh t (((aS t (((bh t a.toNat (40:Int):Nat):Int)) L (bF t a.toNat (40:Int) bad)).a:Int)).toNat (32:Int):Nat):Int))+(1:Int)).toNat (32:Int) (bF t (((aS t (((bh t a.toNat (40:Int):Nat):Int)) L (bF t a.toNat (40:Int) bad)).a:Int)).toNat (32:Int) ((aS t (((bh t a.toNat (40:Int):Nat):Int)) L (bF t a.toNat (40:Int) bad)).bad)))).a:Int)).toNat (41:Int) ((aS t (((bh t ((((bh t (((aS t (((bh t a.toNat (40:Int):Nat):Int)) L (bF t a.toNat (40:Int) bad)).a:Int)).toNat (32:Int):Nat):Int))+(1:Int)).toNat (32:Int):Nat):Int)) (((aS t (((bh t a.toNat (40:Int):Nat):Int)) L (bF t a.toNat (40:Int) bad)).L:Int)) (bF t ((((bh t (((aS t (((bh t a.toNat (40:Int):Nat):Int)) L (bF t a.toNat (40:Int) bad)).a:Int)).toNat (32:Int):Nat):Int))+(1:Int)).toNat (32:Int) (bF t (((aS t (((bh t a.toNat (40:Int):Nat):Int)) L (bF t a.toNat (40:Int) bad)).a:Int)).toNat (32:Int) ((aS t (((bh t a.toNat (40:Int):Nat):Int)) L (bF t a.toNat (40:Int) bad)).bad)))).bad))=((aL t a L).bad))))/\True))))))))/\((decide ((bE t (((bh t (((aS t (((bh t a.toNat (40:Int):Nat):Int)) L (bF t a.toNat (40:Int) bad)).a:Int)).toNat (32:Int):Nat):Int)).toNat)=(43:Int)))=false ->
 ((3 * (101 - (((aS t (((bh t a.toNat (40:Int):Nat):Int)) L (bF t a.toNat (40:Int) bad)).L:Int))).toNat<n/\0<=(((bh t (((aS t (((bh t a.toNat (40:Int):Nat):Int)) L (bF t a.toNat (40:Int) bad)).a:Int)).toNat (32:Int):Nat):Int))/\(((bh t (((aS t (((bh t a.toNat (40:Int):Nat):Int)) L (bF t a.toNat (40:Int) bad)).a:Int)).toNat (32:Int):Nat):Int))<=(t.length:Int)/\t.length<=10000/\0<=(((aS t (((bh t a.toNat (40:Int):Nat):Int)) L (bF t a.toNat (40:Int) bad)).L:Int))/\(((aS t (((bh t a.toNat (40:Int):Nat):Int)) L (bF t a.toNat (40:Int) bad)).L:Int))<=1000)/\((0<=(((aS t (((bh t (((aS t (((bh t a.toNat (40:Int):Nat):Int)) L (bF t a.toNat (40:Int) bad)).a:Int)).toNat (32:Int):Nat):Int)) (((aS t (((bh t a.toNat (40:Int):Nat):Int)) L (bF t a.toNat (40:Int) bad)).L:Int)) (bF t (((aS t (((bh t a.toNat (40:Int):Nat):Int)) L (bF t a.toNat (40:Int) bad)).a:Int)).toNat (32:Int) ((aS t (((bh t a.toNat (40:Int):Nat):Int)) L (bF t a.toNat (40:Int) bad)).bad))).a:Int))/\(((aS t (((bh t (((aS t (((bh t a.toNat (40:Int):Nat):Int)) L (bF t a.toNat (40:Int) bad)).a:Int)).toNat (32:Int):Nat):Int)) (((aS t (((bh t a.toNat (40:Int):Nat):Int)) L (bF t a.toNat (40:Int) bad)).L:Int)) (bF t (((aS t (((bh t a.toNat (40:Int):Nat):Int)) L (bF t a.toNat (40:Int) bad)).a:Int)).toNat (32:Int) ((aS t (((bh t a.toNat (40:Int):Nat):Int)) L (bF t a.toNat (40:Int) bad)).bad))).a:Int))<=(t.length:Int)/\t.length<=10000)/\((M.mk (7:Int) (0:Int) ([(bH ((aS t (((bh t a.toNat (40:Int):Nat):Int)) L (bF t a.toNat (40:Int) bad)).e)),(bH ((aS t (((bh t (((aS t (((bh t a.toNat (40:Int):Nat):Int)) L (bF t a.toNat (40:Int) bad)).a:Int)).toNat (32:Int):Nat):Int)) (((aS t (((bh t a.toNat (40:Int):Nat):Int)) L (bF t a.toNat (40:Int) bad)).L:Int)) (bF t (((aS t (((bh t a.toNat (40:Int):Nat):Int)) L (bF t a.toNat (40:Int) bad)).a:Int)).toNat (32:Int) ((aS t (((bh t a.toNat (40:Int):Nat):Int)) L (bF t a.toNat (40:Int) bad)).bad))).e))]))=((aL t a L).e)/\((t=t/\((((bh t (((aS t (((bh t (((aS t (((bh t a.toNat (40:Int):Nat):Int)) L (bF t a.toNat (40:Int) bad)).a:Int)).toNat (32:Int):Nat):Int)) (((aS t (((bh t a.toNat (40:Int):Nat):Int)) L (bF t a.toNat (40:Int) bad)).L:Int)) (bF t (((aS t (((bh t a.toNat (40:Int):Nat):Int)) L (bF t a.toNat (40:Int) bad)).a:Int)).toNat (32:Int) ((aS t (((bh t a.toNat (40:Int):Nat):Int)) L (bF t a.toNat (40:Int) bad)).bad))).a:Int)).toNat (41:Int):Nat):Int))=((aL t a L).a:Int)/\((((aS t (((bh t (((aS t (((bh t a.toNat (40:Int):Nat):Int)) L (bF t a.toNat (40:Int) bad)).a:Int)).toNat (32:Int):Nat):Int)) (((aS t (((bh t a.toNat (40:Int):Nat):Int)) L (bF t a.toNat (40:Int) bad)).L:Int)) (bF t (((aS t (((bh t a.toNat (40:Int):Nat):Int)) L (bF t a.toNat (40:Int) bad)).a:Int)).toNat (32:Int) ((aS t (((bh t a.toNat (40:Int):Nat):Int)) L (bF t a.toNat (40:Int) bad)).bad))).L:Int))=((aL t a L).L:Int)/\(bF t (((aS t (((bh t (((aS t (((bh t a.toNat (40:Int):Nat):Int)) L (bF t a.toNat (40:Int) bad)).a:Int)).toNat (32:Int):Nat):Int)) (((aS t (((bh t a.toNat (40:Int):Nat):Int)) L (bF t a.toNat (40:Int) bad)).L:Int)) (bF t (((aS t (((bh t a.toNat (40:Int):Nat):Int)) L (bF t a.toNat (40:Int) bad)).a:Int)).toNat (32:Int) ((aS t (((bh t a.toNat (40:Int):Nat):Int)) L (bF t a.toNat (40:Int) bad)).bad))).a:Int)).toNat (41:Int) ((aS t (((bh t (((aS t (((bh t a.toNat (40:Int):Nat):Int)) L (bF t a.toNat (40:Int) bad)).a:Int)).toNat (32:Int):Nat):Int)) (((aS t (((bh t a.toNat (40:Int):Nat):Int)) L (bF t a.toNat (40:Int) bad)).L:Int)) (bF t (((aS t (((bh t a.toNat (40:Int):Nat):Int)) L (bF t a.toNat (40:Int) bad)).a:Int)).toNat (32:Int) ((aS t (((bh t a.toNat (40:Int):Nat):Int)) L (bF t a.toNat (40:Int) bad)).bad))).bad))=((aL t a L).bad))))/\True))))))))))):=by kernel_rfl
theorem xq(n:Nat)(hE:aR [])(hO:ja [])(hM:iu [])(hS:gO [bm,fF,e9 n]):gj.Good (fb (n+1)):=by
 refine⟨aB kJ rfl (by decide),?_⟩
 show ∀ (t:List UInt8) (a:Int) (L:Int) (bad:Bool),(3 * (101 - L).toNat+1<n+1/\0<=a/\a<=(t.length:Int)/\t.length<=10000/\0<=L/\L<=100/\bad=false/\bE t a.toNat=40)->o5 prog l9 [[.d .str, .d (.int .i64), .d (.int .i64), .d .bool]] [.box 0] [[⟨.str,t⟩,⟨(.int .i64),a⟩,⟨(.int .i64),L⟩,⟨.bool,bad⟩]] [⟨(.st .expr),(aL t a L).e⟩] [[⟨.str,t⟩,⟨(.int .i64),((aL t a L).a:Int)⟩,⟨(.int .i64),((aL t a L).L:Int)⟩,⟨.bool,(aL t a L).bad⟩]]
 intro t a L bad hp
 refine fm (own:=[9,27,32]) (wr:=[]) (cl:=[]) (ro:=[]) hE hO hM hS kJ vG (qx t a L bad) rfl rfl ?_
 rewrite [xL n t a L bad]
 obtain⟨hm,h0,h1,h2,h3,h4,h5,h6⟩:=hp
 subst h5
 have l0:=sI t a.toNat (by rw[h6];decide)
 obtain⟨g1,g2⟩:=a0P t a 40 h0 h6
 have b1:=uc t (a+1) L false (by omega) (by omega) h3
 obtain⟨p1,p2⟩:=Wa t a L h0 (by omega) h3 h4 h6 _ rfl
 simp only[yE] at p1 p2
 simp only[g1,g2,a1E]
 generalize aS t (a+1) L false=X at *
 have c1:=Ad t X.a 32 (by decide) (by omega)
 by_cases hs:bE t (bh t X.a 32)=43
 .obtain⟨q1,q2,q3,q4⟩:=p1 hs
  have l1:=sI t (bh t X.a 32) (by rw[hs];decide)
  have e1:(((bh t X.a 32:Nat):Int)+1).toNat=bh t X.a 32+1:=by omega
  have c2:=Ad t (bh t X.a 32+1) 32 (by decide) (by omega)
  have b2:=uc t ((bh t (bh t X.a 32+1) 32:Nat):Int) (X.L:Int) (bF t (bh t X.a 32+1) 32 (bF t X.a 32 X.bad)) (by omega) (by omega) (by omega)
  simp only[hs,e1,q1,q2,q3,q4,a1Y,a1V,a1Q,a1O,a1I,a1G,a1J,a1K,a1R,a1W,a1H,a1Z,a1E,ah,aG]
  generalize aS t ((bh t (bh t X.a 32+1) 32:Nat):Int) (X.L:Int) (bF t (bh t X.a 32+1) 32 (bF t X.a 32 X.bad))=Y at *
  have c3:=Ad t Y.a 41 (by decide) (by omega)
  repeat' (first|intro _|apply And.intro)
  all_goals first|exact True.intro|omega|with_reducible rfl
 .obtain⟨q1,q2,q3,q4⟩:=p2 hs
  have b2:=uc t ((bh t X.a 32:Nat):Int) (X.L:Int) (bF t X.a 32 X.bad) (by omega) (by omega) (by omega)
  simp only[hs,q1,q2,q3,q4,a1Y,a1V,a1Q,a1O,a1I,a1G,a1J,a1K,a1R,a1W,a1H,a1Z,a1E,ah,aG]
  generalize aS t ((bh t X.a 32:Nat):Int) (X.L:Int) (bF t X.a 32 X.bad)=Y at *
  have c3:=Ad t Y.a 41 (by decide) (by omega)
  repeat' (first|intro _|apply And.intro)
  all_goals first|exact True.intro|omega|with_reducible rfl
def qu(t:List UInt8)(a:Int)(L:Int)(bad:Bool):Nat->aW:=(λ zb=>if Nat.beq zb 0 then .mk (Nat) (λ m=>m<=sE t (aL t a (L+1))) (λ m=>sE t (aL t a (L+1)) - m) [] [1,4,5,6,7,8,9,10,11,12,13,14,15,16,17,18,19,20,21,22,23,24,25,26,27] (λ m=>[]) [0,2,28,29,30,31,32,33,34,35,36,37,38,39,40,41,42,43,44,45,46,47,48,49,50,51,52,53,54,55] (λ m=>[(400000, .box [.az ⟨.str,(t:List UInt8)⟩, .az ⟨(.int .i64),(((aL t a (L+1)).a:Int)+(m:Int):Int)⟩, .az ⟨(.int .i64),(((aL t a (L+1)).L:Int):Int)⟩, .az ⟨.bool,((aL t a (L+1)).bad:Bool)⟩]),(3, .box [.az ⟨(.int .i64),((aP 8 m (aL t a (L+1)).e).af:Int)⟩, .az ⟨(.int .i64),((aP 8 m (aL t a (L+1)).e).al:Int)⟩, .aq 7100]),(7100, .aq (.st .expr) ((aP 8 m (aL t a (L+1)).e).J:List M))]) [] [] (λ m=>λ _ => .none) else .none)
theorem xI(n:Nat)(t:List UInt8)(a:Int)(L:Int)(bad:Bool):dd (dr [] [] [] [27,46] [] [] [] [bm,cI n]) (aD eA) (qu t a L bad) 0 (ij (dr [] [] [] [27,46] [] [] [] [bm,cI n]) eA [[.d .str, .d (.int .i64), .d (.int .i64), .d .bool]] λ r ds=>bR r [⟨(.st .expr),(aS t a L bad).e⟩]/\jl ds [[⟨.str,t⟩,⟨(.int .i64),((aS t a L bad).a:Int)⟩,⟨(.int .i64),((aS t a L bad).L:Int)⟩,⟨.bool,(aS t a L bad).bad⟩]]) (cv eA [.box 0] [[.d .str, .d (.int .i64), .d (.int .i64), .d .bool]] [[⟨.str,t⟩,⟨(.int .i64),a⟩,⟨(.int .i64),L⟩,⟨.bool,bad⟩]]) =
 ((ah L ->
 (ah (L+(1:Int))/\((bad=false ->
 (ah (L+(1:Int)) ->
 (((decide ((100:Int)<(L+(1:Int))))=true ->
 (zE=((aS t a L bad).e)/\((t=t/\(a=((aS t a L bad).a:Int)/\((L+(1:Int))=((aS t a L bad).L:Int)/\true=((aS t a L bad).bad))))/\True)))/\((decide ((100:Int)<(L+(1:Int))))=false ->
 ((3 * (101 - (L+(1:Int))).toNat+2<n/\0<=a/\a<=(t.length:Int)/\t.length<=10000/\0<=(L+(1:Int))/\(L+(1:Int))<=100/\bad=false)/\((∃ m1:Nat,(m1<=sE t (aL t a (L+1))/\((True/\(True/\(True/\True)))/\((t=t/\((((aL t a (L+(1:Int))).a:Int))=(((aL t a (L+1)).a:Int)+(m1:Int))/\((((aL t a (L+(1:Int))).L:Int))=((aL t a (L+1)).L:Int)/\(((aL t a (L+(1:Int))).bad)=((aL t a (L+1)).bad)/\True))))/\((((aL t a (L+(1:Int))).e).af=((aP 8 m1 (aL t a (L+1)).e).af)/\(((aL t a (L+(1:Int))).e).al=((aP 8 m1 (aL t a (L+1)).e).al)/\(True/\True)))/\(((aL t a (L+(1:Int))).e).J=((aP 8 m1 (aL t a (L+1)).e).J)/\(((0:Int)=(0:Int)/\((0:Int)=(0:Int)/\(True/\True)))/\True)))))))/\(∀ m1:Nat,(m1<=sE t (aL t a (L+1)) ->
 (((!((aL t a (L+1)).bad))=true ->
 ((0<=(((aL t a (L+1)).a:Int)+(m1:Int))/\(((aL t a (L+1)).a:Int)+(m1:Int))<=(t.length:Int)/\t.length<=10000)/\(((decide ((bE t (((aL t a (L+1)).a:Int)+(m1:Int)).toNat)=(42:Int)))=true ->
 (ah (((aL t a (L+1)).a:Int)+(m1:Int)) ->
 (ah ((((aL t a (L+1)).a:Int)+(m1:Int))+(1:Int))/\(∃ m2:Nat,(m2<=sE t (aL t a (L+1))/\(sE t (aL t a (L+1)) - m2<sE t (aL t a (L+1)) - m1/\((True/\(True/\(True/\True)))/\((t=t/\(((((aL t a (L+1)).a:Int)+(m1:Int))+(1:Int))=(((aL t a (L+1)).a:Int)+(m2:Int))/\(((aL t a (L+1)).L:Int)=((aL t a (L+1)).L:Int)/\(((aL t a (L+1)).bad)=((aL t a (L+1)).bad)/\True))))/\(((8:Int)=((aP 8 m2 (aL t a (L+1)).e).af)/\((0:Int)=((aP 8 m2 (aL t a (L+1)).e).al)/\(True/\True)))/\(([(M.mk ((aP 8 m1 (aL t a (L+1)).e).af) ((aP 8 m1 (aL t a (L+1)).e).al) ((aP 8 m1 (aL t a (L+1)).e).J))])=((aP 8 m2 (aL t a (L+1)).e).J)/\(((0:Int)=(0:Int)/\((0:Int)=(0:Int)/\(True/\True)))/\True)))))))))))/\((decide ((bE t (((aL t a (L+1)).a:Int)+(m1:Int)).toNat)=(42:Int)))=false ->
 (ah ((aL t a (L+1)).L:Int) ->
 (ah (((aL t a (L+1)).L:Int) - (1:Int))/\((M.mk ((aP 8 m1 (aL t a (L+1)).e).af) ((aP 8 m1 (aL t a (L+1)).e).al) ((aP 8 m1 (aL t a (L+1)).e).J))=((aS t a L bad).e)/\((t=t/\((((aL t a (L+1)).a:Int)+(m1:Int))=((aS t a L bad).a:Int)/\((((aL t a (L+1)).L:Int) - (1:Int))=((aS t a L bad).L:Int)/\((aL t a (L+1)).bad)=((aS t a L bad).bad))))/\True))))))))/\((!((aL t a (L+1)).bad))=(!true) ->
 ((false=true ->
 (ah (((aL t a (L+1)).a:Int)+(m1:Int)) ->
 (ah ((((aL t a (L+1)).a:Int)+(m1:Int))+(1:Int))/\(∃ m2:Nat,(m2<=sE t (aL t a (L+1))/\(sE t (aL t a (L+1)) - m2<sE t (aL t a (L+1)) - m1/\((True/\(True/\(True/\True)))/\((t=t/\(((((aL t a (L+1)).a:Int)+(m1:Int))+(1:Int))=(((aL t a (L+1)).a:Int)+(m2:Int))/\(((aL t a (L+1)).L:Int)=((aL t a (L+1)).L:Int)/\(((aL t a (L+1)).bad)=((aL t a (L+1)).bad)/\True))))/\(((8:Int)=((aP 8 m2 (aL t a (L+1)).e).af)/\((0:Int)=((aP 8 m2 (aL t a (L+1)).e).al)/\(True/\True)))/\(([(M.mk ((aP 8 m1 (aL t a (L+1)).e).af) ((aP 8 m1 (aL t a (L+1)).e).al) ((aP 8 m1 (aL t a (L+1)).e).J))])=((aP 8 m2 (aL t a (L+1)).e).J)/\(((0:Int)=(0:Int)/\((0:Int)=(0:Int)/\(True/\True)))/\True)))))))))))/\(false=false ->
 (ah ((aL t a (L+1)).L:Int) ->
 (ah (((aL t a (L+1)).L:Int) - (1:Int))/\((M.mk ((aP 8 m1 (aL t a (L+1)).e).af) ((aP 8 m1 (aL t a (L+1)).e).al) ((aP 8 m1 (aL t a (L+1)).e).J))=((aS t a L bad).e)/\((t=t/\((((aL t a (L+1)).a:Int)+(m1:Int))=((aS t a L bad).a:Int)/\((((aL t a (L+1)).L:Int) - (1:Int))=((aS t a L bad).L:Int)/\((aL t a (L+1)).bad)=((aS t a L bad).bad))))/\True))))))))))))))))/\(bad=(!false) ->
 ((true=true ->
 (zE=((aS t a L bad).e)/\((t=t/\(a=((aS t a L bad).a:Int)/\((L+(1:Int))=((aS t a L bad).L:Int)/\true=((aS t a L bad).bad))))/\True)))/\(true=false ->
 ((3 * (101 - (L+(1:Int))).toNat+2<n/\0<=a/\a<=(t.length:Int)/\t.length<=10000/\0<=(L+(1:Int))/\(L+(1:Int))<=100/\bad=false)/\((∃ m1:Nat,(m1<=sE t (aL t a (L+1))/\((True/\(True/\(True/\True)))/\((t=t/\((((aL t a (L+(1:Int))).a:Int))=(((aL t a (L+1)).a:Int)+(m1:Int))/\((((aL t a (L+(1:Int))).L:Int))=((aL t a (L+1)).L:Int)/\(((aL t a (L+(1:Int))).bad)=((aL t a (L+1)).bad)/\True))))/\((((aL t a (L+(1:Int))).e).af=((aP 8 m1 (aL t a (L+1)).e).af)/\(((aL t a (L+(1:Int))).e).al=((aP 8 m1 (aL t a (L+1)).e).al)/\(True/\True)))/\(((aL t a (L+(1:Int))).e).J=((aP 8 m1 (aL t a (L+1)).e).J)/\(((0:Int)=(0:Int)/\((0:Int)=(0:Int)/\(True/\True)))/\True)))))))/\(∀ m1:Nat,(m1<=sE t (aL t a (L+1)) ->
 (((!((aL t a (L+1)).bad))=true ->
 ((0<=(((aL t a (L+1)).a:Int)+(m1:Int))/\(((aL t a (L+1)).a:Int)+(m1:Int))<=(t.length:Int)/\t.length<=10000)/\(((decide ((bE t (((aL t a (L+1)).a:Int)+(m1:Int)).toNat)=(42:Int)))=true ->
 (ah (((aL t a (L+1)).a:Int)+(m1:Int)) ->
 (ah ((((aL t a (L+1)).a:Int)+(m1:Int))+(1:Int))/\(∃ m2:Nat,(m2<=sE t (aL t a (L+1))/\(sE t (aL t a (L+1)) - m2<sE t (aL t a (L+1)) - m1/\((True/\(True/\(True/\True)))/\((t=t/\(((((aL t a (L+1)).a:Int)+(m1:Int))+(1:Int))=(((aL t a (L+1)).a:Int)+(m2:Int))/\(((aL t a (L+1)).L:Int)=((aL t a (L+1)).L:Int)/\(((aL t a (L+1)).bad)=((aL t a (L+1)).bad)/\True))))/\(((8:Int)=((aP 8 m2 (aL t a (L+1)).e).af)/\((0:Int)=((aP 8 m2 (aL t a (L+1)).e).al)/\(True/\True)))/\(([(M.mk ((aP 8 m1 (aL t a (L+1)).e).af) ((aP 8 m1 (aL t a (L+1)).e).al) ((aP 8 m1 (aL t a (L+1)).e).J))])=((aP 8 m2 (aL t a (L+1)).e).J)/\(((0:Int)=(0:Int)/\((0:Int)=(0:Int)/\(True/\True)))/\True)))))))))))/\((decide ((bE t (((aL t a (L+1)).a:Int)+(m1:Int)).toNat)=(42:Int)))=false ->
 (ah ((aL t a (L+1)).L:Int) ->
 (ah (((aL t a (L+1)).L:Int) - (1:Int))/\((M.mk ((aP 8 m1 (aL t a (L+1)).e).af) ((aP 8 m1 (aL t a (L+1)).e).al) ((aP 8 m1 (aL t a (L+1)).e).J))=((aS t a L bad).e)/\((t=t/\((((aL t a (L+1)).a:Int)+(m1:Int))=((aS t a L bad).a:Int)/\((((aL t a (L+1)).L:Int) - (1:Int))=((aS t a L bad).L:Int)/\((aL t a (L+1)).bad)=((aS t a L bad).bad))))/\True))))))))/\((!((aL t a (L+1)).bad))=(!true) ->
 ((false=true ->
 (ah (((aL t a (L+1)).a:Int)+(m1:Int)) ->
 (ah ((((aL t a (L+1)).a:Int)+(m1:Int))+(1:Int))/\(∃ m2:Nat,(m2<=sE t (aL t a (L+1))/\(sE t (aL t a (L+1)) - m2<sE t (aL t a (L+1)) - m1/\((True/\(True/\(True/\True)))/\((t=t/\(((((aL t a (L+1)).a:Int)+(m1:Int))+(1:Int))=(((aL t a (L+1)).a:Int)+(m2:Int))/\(((aL t a (L+1)).L:Int)=((aL t a (L+1)).L:Int)/\(((aL t a (L+1)).bad)=((aL t a (L+1)).bad)/\True))))/\(((8:Int)=((aP 8 m2 (aL t a (L+1)).e).af)/\((0:Int)=((aP 8 m2 (aL t a (L+1)).e).al)/\(True/\True)))/\(([(M.mk ((aP 8 m1 (aL t a (L+1)).e).af) ((aP 8 m1 (aL t a (L+1)).e).al) ((aP 8 m1 (aL t a (L+1)).e).J))])=((aP 8 m2 (aL t a (L+1)).e).J)/\(((0:Int)=(0:Int)/\((0:Int)=(0:Int)/\(True/\True)))/\True)))))))))))/\(false=false ->
 (ah ((aL t a (L+1)).L:Int) ->
 (ah (((aL t a (L+1)).L:Int) - (1:Int))/\((M.mk ((aP 8 m1 (aL t a (L+1)).e).af) ((aP 8 m1 (aL t a (L+1)).e).al) ((aP 8 m1 (aL t a (L+1)).e).J))=((aS t a L bad).e)/\((t=t/\((((aL t a (L+1)).a:Int)+(m1:Int))=((aS t a L bad).a:Int)/\((((aL t a (L+1)).L:Int) - (1:Int))=((aS t a L bad).L:Int)/\((aL t a (L+1)).bad)=((aS t a L bad).bad))))/\True))))))))))))))))))):=by kernel_rfl
theorem xn(n:Nat)(hE:aR [])(hO:ja [])(hM:iu [])(hS:gO [bm,cI n]):gj.Good (e9 (n+1)):=by
 refine⟨aB gU rfl (by decide),?_⟩
 show ∀ (t:List UInt8) (a:Int) (L:Int) (bad:Bool),(3 * (101 - L).toNat<n+1/\0<=a/\a<=(t.length:Int)/\t.length<=10000/\0<=L/\L<=1000)->o5 prog iE [[.d .str, .d (.int .i64), .d (.int .i64), .d .bool]] [.box 0] [[⟨.str,t⟩,⟨(.int .i64),a⟩,⟨(.int .i64),L⟩,⟨.bool,bad⟩]] [⟨(.st .expr),(aS t a L bad).e⟩] [[⟨.str,t⟩,⟨(.int .i64),((aS t a L bad).a:Int)⟩,⟨(.int .i64),((aS t a L bad).L:Int)⟩,⟨.bool,(aS t a L bad).bad⟩]]
 intro t a L bad hp
 refine fm (own:=[27,46]) (wr:=[]) (cl:=[]) (ro:=[]) hE hO hM hS gU vD (qu t a L bad) rfl rfl ?_
 rewrite [xI n t a L bad]
 obtain⟨hm,h0,h1,h2,h3,h4⟩:=hp
 cases bad with
 | true =>
  obtain⟨q1,q2,q3,q4⟩:=Qr t a L true h0 h3 (.inl rfl)
  simp only[q1,q2,q3,q4,a1Y,a1V,a1Q,a1O,a1I,a1G,a1J,a1K,a1R,a1W,a1H,a1Z,a1E,ah,aG]
  repeat' (first|intro _|apply And.intro)
  all_goals first|exact True.intro|omega|with_reducible rfl
 | false =>
  by_cases hd:100<L+1
  .obtain⟨q1,q2,q3,q4⟩:=Qr t a L false h0 h3 (.inr hd)
   simp only[hd,q1,q2,q3,q4,a1Y,a1V,a1Q,a1O,a1I,a1G,a1J,a1K,a1R,a1W,a1H,a1Z,a1E,ah,aG]
   repeat' (first|intro _|apply And.intro)
   all_goals first|exact True.intro|omega|with_reducible rfl
  .obtain⟨q1,q2,q3,q4⟩:=W3 t a L false h0 h1 h3 rfl hd
   have b1:=GS t a (L+1) h0 h1 (by omega) (by omega)
   have b2:=ZR t a (L+1) h0 h1 (by omega) (by omega)
   simp only[hd,q1,q2,q3,q4,a1Y,a1V,a1Q,a1O,a1I,a1G,a1J,a1K,a1R,a1W,a1H,a1Z,a1E,ah,aG]
   generalize aL t a (L+1)=R at *
   cases hB:R.bad with
   | true =>
    have z:=XL t R hB
    simp only[hB,z,a1Y,a1V,a1Q,a1O,a1I,a1G,a1J,a1K,a1R,a1W,a1H,a1Z,a1E,ah,aG]
    repeat' (first|intro _|apply And.intro)
    all_goals first|exact True.intro|omega|with_reducible rfl|exact⟨0,a3g _,by omega,⟨rfl,rfl⟩,rfl⟩|(simp only[M.eta];congr 1;omega)
   | false =>
    have z:=λ m h=>ZQ t R m hB h
    simp only[hB,a1Y,a1V,a1Q,a1O,a1I,a1G,a1J,a1K,a1R,a1W,a1H,a1Z,a1E,ah,aG]
    repeat' (first|intro _|apply And.intro)
    all_goals (try simp only[a1F,a1L] at *)
    all_goals first|exact True.intro|omega|with_reducible rfl|exact⟨0,a3g _,by omega,⟨rfl,rfl⟩,rfl⟩|(rename_i m1 _ _ _;have g:=z m1 (by assumption);first|omega|(simp only[M.eta];congr 1;omega)|exact⟨m1+1,by omega,by omega,by omega,⟨by rw[ep],by rw[ep]⟩,by rw[ep,M.eta]⟩)
theorem Nz:∀ n,gO [cI n,fb n,e9 n]
 | 0=>⟨⟨aB kh rfl (by decide),λ _ _ _ _ h=>absurd h.1 (a2s _)⟩,⟨aB kJ rfl (by decide),λ _ _ _ _ h=>absurd h.1 (a2s _)⟩,⟨aB gU rfl (by decide),λ _ _ _ _ h=>absurd h.1 (a2s _)⟩,trivial⟩
 | n+1=>by
  have ih:=Nz n
  exact⟨vM n trivial trivial trivial ⟨eo,nQ,ih.2.1,ih.1,trivial⟩,xq n trivial trivial trivial ⟨eo,vu,ih.2.2.1,trivial⟩,xn n trivial trivial trivial ⟨eo,ih.1,trivial⟩,trivial⟩
theorem vq:gj.Good hJ :=
 ⟨aB gU rfl (by decide),λ t a L bad hp=>(Nz (3 * (101 - L).toNat+1)).2.2.1.2 t a L bad (⟨a2l _,hp⟩)⟩
end
end Go.Proofs.YtaaamahdcpcofaaDoor

set_option maxRecDepth 4000
set_option maxHeartbeats 4000000
namespace Go.Proofs.YtaaamahdcpcofaaDoor
noncomputable section
mutual
def bq:ai->Nat
 | ⟨_,_,_,ks⟩=>1+th ks
def th:List ai->Nat
 | []=>0
 | k::ks=>bq k+th ks
end
theorem JE:∀ xs,th xs=aw bq xs
 | []=>rfl
 | x::xs=>by rw[th,aw,JE xs]
theorem Fc(x:ai):bq x=1+aw bq x.J:=by
 cases x;simp[bq,JE]
mutual
def bX:ai->Nat
 | ⟨_,_,_,ks⟩=>1+uJ ks
def uJ:List ai->Nat
 | []=>0
 | k::ks=>max (bX k) (uJ ks)
end
theorem Jn:∀ xs,uJ xs=dI bX xs
 | []=>rfl
 | x::xs=>by rw[uJ,dI,Jn xs]
theorem uI(x:ai):bX x=1+dI bX x.J:=by
 cases x;simp[bX,Jn]
mutual
theorem DQ:∀ x:ai,bX x<=bq x
 | ⟨k,n,c,ks⟩=>by
  have:=Bx ks
  simp only[bX,bq];omega
theorem Bx:∀ xs:List ai,uJ xs<=th xs
 | []=>by simp[uJ]
 | x::xs=>by
  have h1:=DQ x
  have h2:=Bx xs
  simp only[uJ,th];omega
end
def bT(k:Int):Int:=if k=1\/k=2\/k=3\/k=4 then 0 else if k=7 then 1 else if k=5\/k=6 then 2 else -1
def dK(k:Int):Bool:=decide (k=4)||decide (k=6)||decide (k=7)
def jh(x:M):Bool:=decide (x.af=0)&&decide (x.al=0)&&decide (x.J.length=0)
def Cg(gg:bb)(x:ai):Bool:=if x.af=3 then decide (0<=x.al/\x.al<=gg.aO - 1) else decide (x.al=0)
def Bv(gg:bb)(x:ai):Bool:=if dK x.af=true then E5 gg x.cond else jh x.cond
def tB(gg:bb)(x:ai):Bool:=decide (bT x.af=(x.J.length:Int))&&Cg gg x&&Bv gg x
mutual
def cR(gg:bb):ai->Bool
 | ⟨k,n,c,ks⟩=>tB gg ⟨k,n,c,ks⟩&&KK gg ks
def KK(gg:bb):List ai->Bool
 | []=>true
 | k::ks=>cR gg k&&KK gg ks
end
theorem MY(gg:bb):∀ xs,KK gg xs=cG (cR gg) xs
 | []=>rfl
 | x::xs=>by rw[KK,cG,MY gg xs]
theorem oF(gg:bb)(x:ai):cR gg x=(tB gg x&&cG (cR gg) x.J):=by
 cases x;simp[cR,MY]
theorem qe(gg:bb)(x:ai):tB gg x=(decide (bT x.af=(x.J.length:Int))&&Cg gg x&&Bv gg x):=rfl
def nh(gg:bb)(x:ai)(av depth:Int):Bool:=cR gg x&&decide ((bq x:Int)<=av)&&decide ((bX x:Int)<=depth)
def qI(gg:bb)(x:ai)(av depth:Int):Int:=bif nh gg x av depth then av - bq x else 0
theorem JI(gg:bb)(x:ai)(av depth:Int) :
  (cR gg x=true/\(bq x:Int)<=av/\(bX x:Int)<=depth/\nh gg x av depth=true/\qI gg x av depth=av - bq x) \/
  ((cR gg x=false\/av<(bq x:Int)\/depth<(bX x:Int))/\nh gg x av depth=false/\qI gg x av depth=0):=by
 unfold qI nh
 cases cR gg x
 .right;simp
 .rcases a5b av (bq x) with h|h
  .right;simp[h,a5r.2 h]
  .rcases a5b depth (bX x) with h'|h'
   .right;simp[h',a5r.2 h']
   .left;simp[h,h']
def yr(gg:bb)(x:ai):Bool:=nh gg x 60 20
def Dz(gg:bb)(x:ai):Bool:=cf gg&&yr gg x
theorem Wt(gg:bb)(x:M):Nj gg x=(cf gg&&E5 gg x):=by simp[Nj,Hc,E5,Bool.and_assoc]
theorem Hu(gg:bb)(h:cf gg=true):(0<=gg.bw/\gg.bw<=3)/\0<=gg.aO/\gg.aO<=4:=(z6 gg).1 h
def nF:bu:=⟨vk,[.v (.st .expr)],λ (x:M)=>⟨(none,[⟨.bool,jh x⟩])⟩⟩
def BV(x:M):Nat->aW:=λ _ => .none
theorem Kl(x:M):dd (bz [] [] [] [1]) (aD kM) (BV x) 0 (bO (bz [] [] [] [1]) kM λ r=>bR r [⟨.bool,jh x⟩]) (aU kM [.val ⟨(.st .expr),x⟩]) =
 ((ah x.af ->
 (((decide (x.af=(0:Int)))=true ->
 (ah x.al ->
 (((decide (x.al=(0:Int)))=true ->
 (x.J.length<=140737488355328 ->
 (ah ((x.J.length:Int)) ->
 (decide (((x.J.length:Int))=(0:Int)))=(jh x))))/\((decide (x.al=(0:Int)))=(!true) ->
 false=(jh x)))))/\((decide (x.af=(0:Int)))=(!true) ->
 ((false=true ->
 (x.J.length<=140737488355328 ->
 (ah ((x.J.length:Int)) ->
 (decide (((x.J.length:Int))=(0:Int)))=(jh x))))/\(false=(!true) ->
 false=(jh x))))))):=by kernel_rfl
theorem Ka(hE:aR []):bu.Good nF:=by
 refine⟨aB An rfl (by decide),?_⟩
 show ∀ (x:M),True->bL prog vk [.val ⟨(.st .expr),x⟩] (·=[⟨.bool,jh x⟩])
 intro x _
 refine bB (wr:=[]) (cl:=[]) (ro:=[1]) hE An FY (BV x) ?_
 rewrite [Kl x]
 refine λ a0=>⟨λ a1=>λ a2=>⟨λ a3=>λ a4=>λ a5=>?_,λ a3=>?_⟩,λ a1=>⟨λ a2=>λ a3=>λ a4=>?_,λ a2=>?_⟩⟩
 all_goals try and_intros
 all_goals first|rfl|trivial|grind [jh]
theorem Gr:bu.Good nF:=Ka trivial
def mu:bu:=⟨tM,[.r (.st .expr)],λ (x:M)=>⟨(none,[⟨.bool,jh x⟩])⟩⟩
def AH(x:M):Nat->aW:=λ _ => .none
theorem IY(x:M):dd (bz []) (aD jC) (AH x) 0 (bO (bz []) jC λ r=>bR r [⟨.bool,jh x⟩]) (aU jC [.ref ⟨(.st .expr),x⟩]) =
 ((ah x.af ->
 (((decide (x.af=(0:Int)))=true ->
 (ah x.al ->
 (((decide (x.al=(0:Int)))=true ->
 (x.J.length<=140737488355328 ->
 (ah ((x.J.length:Int)) ->
 (decide (((x.J.length:Int))=(0:Int)))=(jh x))))/\((decide (x.al=(0:Int)))=(!true) ->
 false=(jh x)))))/\((decide (x.af=(0:Int)))=(!true) ->
 ((false=true ->
 (x.J.length<=140737488355328 ->
 (ah ((x.J.length:Int)) ->
 (decide (((x.J.length:Int))=(0:Int)))=(jh x))))/\(false=(!true) ->
 false=(jh x))))))):=by kernel_rfl
theorem II(hE:aR []):bu.Good mu:=by
 refine⟨aB xZ rfl (by decide),?_⟩
 show ∀ (x:M),True->bL prog tM [.ref ⟨(.st .expr),x⟩] (·=[⟨.bool,jh x⟩])
 intro x _
 refine bB (wr:=[]) (cl:=[]) (ro:=[]) hE xZ EB (AH x) ?_
 rewrite [IY x]
 refine λ a0=>⟨λ a1=>λ a2=>⟨λ a3=>λ a4=>λ a5=>?_,λ a3=>?_⟩,λ a1=>⟨λ a2=>λ a3=>λ a4=>?_,λ a2=>?_⟩⟩
 all_goals try and_intros
 all_goals first|rfl|trivial|grind [jh]
theorem EP:bu.Good mu:=II trivial
def ld:bu:=⟨sf,[.v (.int .i64)],λ (k:Int)=>⟨(none,[⟨(.int .i64),bT k⟩,⟨.bool,dK k⟩])⟩⟩
def yD(k:Int):Nat->aW:=λ _ => .none
abbrev pO(k:Int):Prop:=(((decide (k=(4:Int)))=true ->
 ((0:Int)=(bT k)/\true=(dK k)))/\((decide (k=(4:Int)))=false ->
 (((decide (k=(5:Int)))=true ->
 ((2:Int)=(bT k)/\false=(dK k)))/\((decide (k=(5:Int)))=false ->
 (((decide (k=(6:Int)))=true ->
 ((2:Int)=(bT k)/\true=(dK k)))/\((decide (k=(6:Int)))=false ->
 (((decide (k=(7:Int)))=true ->
 ((1:Int)=(bT k)/\true=(dK k)))/\((decide (k=(7:Int)))=false ->
 ((-1:Int)=(bT k)/\false=(dK k))))))))))
theorem HE(k:Int):dd (bz []) (aD iQ) (yD k) 0 (bO (bz []) iQ λ r=>bR r [⟨(.int .i64),bT k⟩,⟨.bool,dK k⟩]) (aU iQ [.val ⟨(.int .i64),k⟩]) =
 ((((decide (k=(1:Int)))=true ->
 (((decide (k=(1:Int)))=true ->
 ((0:Int)=(bT k)/\false=(dK k)))/\((decide (k=(1:Int)))=false ->
 (pO k))))/\((decide (k=(1:Int)))=false ->
 (((decide (k=(2:Int)))=true ->
 (((decide (k=(2:Int)))=true ->
 ((0:Int)=(bT k)/\false=(dK k)))/\((decide (k=(2:Int)))=false ->
 (pO k))))/\((decide (k=(2:Int)))=false ->
 (((decide (k=(3:Int)))=true ->
 ((0:Int)=(bT k)/\false=(dK k)))/\((decide (k=(3:Int)))=false ->
 (pO k)))))))):=by kernel_rfl
theorem Hf(hE:aR []):bu.Good ld:=by
 refine⟨aB vX rfl (by decide),?_⟩
 show ∀ (k:Int),True->bL prog sf [.val ⟨(.int .i64),k⟩] (·=[⟨(.int .i64),bT k⟩,⟨.bool,dK k⟩])
 intro k _
 refine bB (wr:=[]) (cl:=[]) (ro:=[]) hE vX C6 (yD k) ?_
 rewrite [HE k]
 refine⟨λ a0=>⟨λ a1=>⟨?_,?_⟩,λ a1=>⟨λ a2=>⟨?_,?_⟩,λ a2=>⟨λ a3=>⟨?_,?_⟩,λ a3=>⟨λ a4=>⟨?_,?_⟩,λ a4=>⟨λ a5=>⟨?_,?_⟩,λ a5=>⟨?_,?_⟩⟩⟩⟩⟩⟩,λ a0=>⟨λ a1=>⟨λ a2=>⟨?_,?_⟩,λ a2=>⟨λ a3=>⟨?_,?_⟩,λ a3=>⟨λ a4=>⟨?_,?_⟩,λ a4=>⟨λ a5=>⟨?_,?_⟩,λ a5=>⟨λ a6=>⟨?_,?_⟩,λ a6=>⟨?_,?_⟩⟩⟩⟩⟩⟩,λ a1=>⟨λ a2=>⟨?_,?_⟩,λ a2=>⟨λ a3=>⟨?_,?_⟩,λ a3=>⟨λ a4=>⟨?_,?_⟩,λ a4=>⟨λ a5=>⟨?_,?_⟩,λ a5=>⟨λ a6=>⟨?_,?_⟩,λ a6=>⟨?_,?_⟩⟩⟩⟩⟩⟩⟩⟩
 all_goals try and_intros
 all_goals first|rfl|trivial|grind [bT,dK]
theorem Dk:bu.Good ld:=Hf trivial
def mr:bu:=⟨tL,[.v (.int .i64)],λ (k:Int)=>⟨(none,[⟨(.int .i64),bT k⟩])⟩⟩
def AF(k:Int):Nat->aW:=λ _ => .none
abbrev mZ(k:Int):Prop:=(((decide (k=(7:Int)))=true ->
 (1:Int)=(bT k))/\((decide (k=(7:Int)))=false ->
 (((decide (k=(5:Int)))=true ->
 (((decide (k=(5:Int)))=true ->
 (2:Int)=(bT k))/\((decide (k=(5:Int)))=false ->
 (-1:Int)=(bT k))))/\((decide (k=(5:Int)))=false ->
 (((decide (k=(6:Int)))=true ->
 (2:Int)=(bT k))/\((decide (k=(6:Int)))=false ->
 (-1:Int)=(bT k)))))))
theorem IW(k:Int):dd (bz []) (aD jA) (AF k) 0 (bO (bz []) jA λ r=>bR r [⟨(.int .i64),bT k⟩]) (aU jA [.val ⟨(.int .i64),k⟩]) =
 ((((decide (k=(1:Int)))=true ->
 (((decide (k=(1:Int)))=true ->
 (0:Int)=(bT k))/\((decide (k=(1:Int)))=false ->
 (mZ k))))/\((decide (k=(1:Int)))=false ->
 (((decide (k=(2:Int)))=true ->
 (((decide (k=(2:Int)))=true ->
 (0:Int)=(bT k))/\((decide (k=(2:Int)))=false ->
 (mZ k))))/\((decide (k=(2:Int)))=false ->
 (((decide (k=(3:Int)))=true ->
 (((decide (k=(3:Int)))=true ->
 (0:Int)=(bT k))/\((decide (k=(3:Int)))=false ->
 (mZ k))))/\((decide (k=(3:Int)))=false ->
 (((decide (k=(4:Int)))=true ->
 (0:Int)=(bT k))/\((decide (k=(4:Int)))=false ->
 (mZ k)))))))))):=by kernel_rfl
theorem IG(hE:aR []):bu.Good mr:=by
 refine⟨aB xY rfl (by decide),?_⟩
 show ∀ (k:Int),True->bL prog tL [.val ⟨(.int .i64),k⟩] (·=[⟨(.int .i64),bT k⟩])
 intro k _
 refine bB (wr:=[]) (cl:=[]) (ro:=[]) hE xY Ez (AF k) ?_
 rewrite [IW k]
 refine⟨λ a0=>⟨λ a1=>?_,λ a1=>⟨λ a2=>?_,λ a2=>⟨λ a3=>⟨λ a4=>?_,λ a4=>?_⟩,λ a3=>⟨λ a4=>?_,λ a4=>?_⟩⟩⟩⟩,λ a0=>⟨λ a1=>⟨λ a2=>?_,λ a2=>⟨λ a3=>?_,λ a3=>⟨λ a4=>⟨λ a5=>?_,λ a5=>?_⟩,λ a4=>⟨λ a5=>?_,λ a5=>?_⟩⟩⟩⟩,λ a1=>⟨λ a2=>⟨λ a3=>?_,λ a3=>⟨λ a4=>?_,λ a4=>⟨λ a5=>⟨λ a6=>?_,λ a6=>?_⟩,λ a5=>⟨λ a6=>?_,λ a6=>?_⟩⟩⟩⟩,λ a2=>⟨λ a3=>?_,λ a3=>⟨λ a4=>?_,λ a4=>⟨λ a5=>⟨λ a6=>?_,λ a6=>?_⟩,λ a5=>⟨λ a6=>?_,λ a6=>?_⟩⟩⟩⟩⟩⟩⟩
 all_goals try and_intros
 all_goals first|rfl|trivial|grind [bT]
theorem EN:bu.Good mr:=IG trivial
def mo:bu:=⟨tJ,[.v (.int .i64)],λ (k:Int)=>⟨(none,[⟨.bool,dK k⟩])⟩⟩
def AD(k:Int):Nat->aW:=λ _ => .none
theorem IU(k:Int):dd (bz []) (aD jy) (AD k) 0 (bO (bz []) jy λ r=>bR r [⟨.bool,dK k⟩]) (aU jy [.val ⟨(.int .i64),k⟩]) =
 ((((decide (k=(4:Int)))=false ->
 (((decide (k=(6:Int)))=false ->
 (decide (k=(7:Int)))=(dK k))/\((decide (k=(6:Int)))=(!false) ->
 true=(dK k))))/\((decide (k=(4:Int)))=(!false) ->
 ((true=false ->
 (decide (k=(7:Int)))=(dK k))/\(true=(!false) ->
 true=(dK k)))))):=by kernel_rfl
theorem IE(hE:aR []):bu.Good mo:=by
 refine⟨aB xV rfl (by decide),?_⟩
 show ∀ (k:Int),True->bL prog tJ [.val ⟨(.int .i64),k⟩] (·=[⟨.bool,dK k⟩])
 intro k _
 refine bB (wr:=[]) (cl:=[]) (ro:=[]) hE xV Ex (AD k) ?_
 rewrite [IU k]
 refine⟨λ a0=>⟨λ a1=>?_,λ a1=>?_⟩,λ a0=>⟨λ a1=>?_,λ a1=>?_⟩⟩
 all_goals try and_intros
 all_goals first|rfl|trivial|grind [dK]
theorem EL:bu.Good mo:=IE trivial
def lp(n:Nat):bu:=⟨pG,[.r (.st .prog), .v (.int .i64)],λ (x:ai) (left:Int)=>⟨(some (cd x<n/\0<=left/\left<=1048576),[⟨(.int .i64),iH (bq x) left⟩])⟩⟩
def pC:bu:=⟨pG,[.r (.st .prog), .v (.int .i64)],λ (x:ai) (left:Int)=>⟨(some (0<=left/\left<=1048576),[⟨(.int .i64),iH (bq x) left⟩])⟩⟩
def AG(x:ai)(left:Int):Nat->aW:=(λ zb=>if Nat.beq zb 0 then .mk (Nat) (λ k=>k<=x.J.length) (λ k=>x.J.length - k) [] [2,3,6,7] (λ k=>[(5, .az ⟨(.int .i64),((k:Int):Int)⟩),(1, .az ⟨(.int .i64),(iH (1+aw bq (x.J.take k)) left:Int)⟩)]) [0,1,4,5,8,9,10,11,12,13,14,15,16,17,18,19,20,21,22,23,24,25,26,27,28,29] (λ k=>[]) [] [] (λ k=>λ _ => .none) else .none)
abbrev wz(n:Nat)(x:ai)(left:Int)(k1:Nat):Prop:=(x.J.length<=140737488355328 ->
 (aZ (k1:Int) x.J.length/\((cd (x.J.getD k1 zP)<n/\0<=(iH (1+aw bq (x.J.take k1)) left)/\(iH (1+aw bq (x.J.take k1)) left)<=1048576)/\(ah (iH (bq (x.J.getD k1 zP)) (iH (1+aw bq (x.J.take k1)) left)) ->
 (ah ((k1:Int)+(1:Int))/\(∃ k2:Nat,(k2<=x.J.length/\(x.J.length - k2<x.J.length - k1/\((x=x/\((iH (bq (x.J.getD k1 zP)) (iH (1+aw bq (x.J.take k1)) left))=(iH (1+aw bq (x.J.take k2)) left)/\((0:Int)=(0:Int)/\(((k1:Int)+(1:Int))=(k2:Int)/\True))))/\True)))))))))
theorem IX(n:Nat)(x:ai)(left:Int):dd (bz [lp n]) (aD jB) (AG x left) 0 (bO (bz [lp n]) jB λ r=>bR r [⟨(.int .i64),iH (bq x) left⟩]) (aU jB [.ref ⟨(.st .prog),x⟩, .val ⟨(.int .i64),left⟩]) =
 ((ah (left - (1:Int))/\((∃ k1:Nat,(k1<=x.J.length/\((x=x/\((left - (1:Int))=(iH (1+aw bq (x.J.take k1)) left)/\((0:Int)=(0:Int)/\((0:Int)=(k1:Int)/\True))))/\True)))/\(∀ k1:Nat,(k1<=x.J.length ->
 (x.J.length<=140737488355328 ->
 (ah ((x.J.length:Int)) ->
 (((decide ((k1:Int)<((x.J.length:Int))))=true ->
 (((decide ((0:Int)<=(iH (1+aw bq (x.J.take k1)) left)))=true ->
 (wz n x left k1))/\((decide ((0:Int)<=(iH (1+aw bq (x.J.take k1)) left)))=false ->
 (iH (1+aw bq (x.J.take k1)) left)=(iH (bq x) left))))/\((decide ((k1:Int)<((x.J.length:Int))))=(!true) ->
 ((false=true ->
 (wz n x left k1))/\(false=false ->
 (iH (1+aw bq (x.J.take k1)) left)=(iH (bq x) left)))))))))))):=by kernel_rfl
theorem IH(n:Nat)(hE:aR [lp n]):bu.Good (lp (n+1)):=by
 refine⟨aB n6 rfl (by decide),?_⟩
 show ∀ (x:ai) (left:Int),(cd x<n+1/\0<=left/\left<=1048576)->bL prog pG [.ref ⟨(.st .prog),x⟩, .val ⟨(.int .i64),left⟩] (·=[⟨(.int .i64),iH (bq x) left⟩])
 intro x left hp
 refine bB (wr:=[]) (cl:=[]) (ro:=[]) hE n6 EA (AG x left) ?_
 rewrite [IX n x left]
 have f0:=nL x
 have f1:=qK bq x.J
 have f2:=pJ (1+aw bq (x.J.take 0)) left
 refine⟨?_,⟨⟨0,⟨?_,⟨⟨rfl,⟨?_,⟨rfl,⟨?_,trivial⟩⟩⟩⟩,trivial⟩⟩⟩,λ k1 a0=>have Jg:=jG bq zP x.J k1;have Bm:=cS bq x.J k1;have DM:=cS bq x.J (k1+1);have Jh:=nU bq x.J k1;have K5:=ct zP x.J k1;have K6:=pJ (1+aw bq (x.J.take k1)) left;have Qc:=pJ (1+aw bq (x.J.take (k1+1))) left;have Qd:=pJ (bq (x.J.getD k1 zP)) (iH (1+aw bq (x.J.take k1)) left);have Qe:=pJ (1+aw bq x.J) left;λ a1=>λ a2=>⟨λ a3=>⟨λ a4=>λ a5=>⟨?_,⟨?_,λ a6=>⟨?_,⟨k1+1,⟨?_,⟨?_,⟨⟨rfl,⟨?_,⟨rfl,⟨?_,trivial⟩⟩⟩⟩,trivial⟩⟩⟩⟩⟩⟩⟩,λ a4=>?_⟩,λ a3=>⟨λ a4=>λ a5=>⟨?_,⟨?_,λ a6=>⟨?_,⟨k1+1,⟨?_,⟨?_,⟨⟨rfl,⟨?_,⟨rfl,⟨?_,trivial⟩⟩⟩⟩,trivial⟩⟩⟩⟩⟩⟩⟩,λ a4=>?_⟩⟩⟩⟩
 all_goals try and_intros
 all_goals try rw[Fc x]
 all_goals first|rfl|trivial|omega|(simp only[a1F,a1L,aZ,ah,dD,eM,j0,fI] at *;omega)|(simp[aZ,ah] at *;omega)|grind
theorem I6 :∀ n,aR [lp n]
 | 0=>⟨⟨aB n6 rfl (by decide),λ _ _ h=>absurd h.1 (a2s _)⟩,trivial⟩
 | n+1=>by
  have ih:=I6  n
  exact⟨IH n ⟨ih.1,trivial⟩,trivial⟩
theorem EO :bu.Good pC :=
 ⟨aB n6 rfl (by decide),λ x left hp=>(I6  (cd x+1)).1.2 x left (⟨a2l _,hp⟩)⟩
def jV(n:Nat):bu:=⟨oD,[.r (.st .prog)],λ (x:ai)=>⟨(some (cd x<n/\bX x<=1048576),[⟨(.int .i64),(bX x:Int)⟩])⟩⟩
def ow:bu:=⟨oD,[.r (.st .prog)],λ (x:ai)=>⟨(some (bX x<=1048576),[⟨(.int .i64),(bX x:Int)⟩])⟩⟩
def yJ(x:ai):Nat->aW:=(λ zb=>if Nat.beq zb 0 then .mk (Nat) (λ k=>k<=x.J.length) (λ k=>x.J.length - k) [] [1] (λ k=>[(4, .az ⟨(.int .i64),((k:Int):Int)⟩),(3, .az ⟨(.int .i64),((dI bX (x.J.take k):Int):Int)⟩)]) [0,2,3,4,5,6,7,8,9,10,11,12,13,14,15,16,17,18,19,20,21,22,23,24] (λ k=>[]) [] [] (λ k=>λ _ => .none) else .none)
theorem HJ(n:Nat)(x:ai):dd (bz [jV n,gR]) (aD iW) (yJ x) 0 (bO (bz [jV n,gR]) iW λ r=>bR r [⟨(.int .i64),(bX x:Int)⟩]) (aU iW [.ref ⟨(.st .prog),x⟩]) =
 (((∃ k1:Nat,(k1<=x.J.length/\((x=x/\((0:Int)=(0:Int)/\((0:Int)=(dI bX (x.J.take k1):Int)/\((0:Int)=(k1:Int)/\True))))/\True)))/\(∀ k1:Nat,(k1<=x.J.length ->
 (x.J.length<=140737488355328 ->
 (ah ((x.J.length:Int)) ->
 (((decide ((k1:Int)<((x.J.length:Int))))=true ->
 (x.J.length<=140737488355328 ->
 (aZ (k1:Int) x.J.length/\((cd (x.J.getD k1 zP)<n/\bX (x.J.getD k1 zP)<=1048576)/\(ah ((bX (x.J.getD k1 zP):Int)) ->
 (ah (max (dI bX (x.J.take k1):Int) ((bX (x.J.getD k1 zP):Int))) ->
 (ah ((k1:Int)+(1:Int))/\(∃ k2:Nat,(k2<=x.J.length/\(x.J.length - k2<x.J.length - k1/\((x=x/\((0:Int)=(0:Int)/\((max (dI bX (x.J.take k1):Int) ((bX (x.J.getD k1 zP):Int)))=(dI bX (x.J.take k2):Int)/\(((k1:Int)+(1:Int))=(k2:Int)/\True))))/\True)))))))))))/\((decide ((k1:Int)<((x.J.length:Int))))=false ->
 (ah ((dI bX (x.J.take k1):Int)+(1:Int))/\((dI bX (x.J.take k1):Int)+(1:Int))=(bX x:Int)))))))))):=by kernel_rfl
theorem Hk(n:Nat)(hE:aR [jV n,gR]):bu.Good (jV (n+1)):=by
 refine⟨aB mW rfl (by decide),?_⟩
 show ∀ (x:ai),(cd x<n+1/\bX x<=1048576)->bL prog oD [.ref ⟨(.st .prog),x⟩] (·=[⟨(.int .i64),(bX x:Int)⟩])
 intro x hp
 refine bB (wr:=[]) (cl:=[]) (ro:=[]) hE mW Dg (yJ x) ?_
 rewrite [HJ n x]
 rw[uI x] at hp
 have f0:=nL x
 have f1:=zI bX x.J
 refine⟨⟨0,⟨?_,⟨⟨rfl,⟨rfl,⟨?_,⟨?_,trivial⟩⟩⟩⟩,trivial⟩⟩⟩,λ k1 a0=>have Jg:=nJ bX zP x.J k1;have Bm:=fN bX x.J k1;have DM:=fN bX x.J (k1+1);have Jh:=sa bX x.J k1;have K5:=ct zP x.J k1;have K6:=pR bX zP x.J k1;λ a1=>λ a2=>⟨λ a3=>λ a4=>⟨?_,⟨?_,λ a5=>λ a6=>⟨?_,⟨k1+1,⟨?_,⟨?_,⟨⟨rfl,⟨rfl,⟨?_,⟨?_,trivial⟩⟩⟩⟩,trivial⟩⟩⟩⟩⟩⟩⟩,λ a3=>⟨?_,?_⟩⟩⟩
 all_goals try and_intros
 all_goals try rw[uI x]
 all_goals first|rfl|trivial|omega|(simp only[a1F,a1L,aZ,ah,dD,eM,j0,fI] at *;omega)|(simp[aZ,ah] at *;omega)|grind
theorem FM :∀ n,aR [jV n]
 | 0=>⟨⟨aB mW rfl (by decide),λ _ h=>absurd h.1 (a2s _)⟩,trivial⟩
 | n+1=>by
  have ih:=FM  n
  exact⟨Hk n ⟨ih.1,wj,trivial⟩,trivial⟩
theorem Dq :bu.Good ow :=
 ⟨aB mW rfl (by decide),λ x hp=>(FM  (cd x+1)).1.2 x (⟨a2l _,hp⟩)⟩
def jS(n:Nat):bu:=⟨oA,[.v (.st .sig), .v (.st .prog), .v (.int .i64), .v (.int .i64)],λ (gg:bb) (x:ai) (av:Int) (depth:Int)=>⟨(some (cd x<n/\cf gg=true/\0<=av/\av<=1048576/\0<=depth/\depth<=1048576),[⟨(.int .i64),qI gg x av depth⟩,⟨.bool,nh gg x av depth⟩])⟩⟩
def ot:bu:=⟨oA,[.v (.st .sig), .v (.st .prog), .v (.int .i64), .v (.int .i64)],λ (gg:bb) (x:ai) (av:Int) (depth:Int)=>⟨(some (cf gg=true/\0<=av/\av<=1048576/\0<=depth/\depth<=1048576),[⟨(.int .i64),qI gg x av depth⟩,⟨.bool,nh gg x av depth⟩])⟩⟩
def yC(gg:bb)(x:ai)(av:Int)(depth:Int):Nat->aW:=(λ zb=>if Nat.beq zb 100004 then .mk (Unit) (λ u=>bT x.af=(x.J.length:Int)/\1<=av/\1<=depth) (λ u=>0) [] [0,1,6,7,10,12,16,17,18,19,20,21,22,23,24,25,26,27,28,29,30,31,32,33,34] (λ u=>[]) [2,3,4,5,8,9,11,13,14,15,35,36,37,38,39,40,41,42,43,44,45,46,47,48,49,50,51,52,53,54,55,56,57,58,59,60,61,62,63,64,65,66,67,68,69,70,71,72,73,74,75,76,77,78,79,80,81,82,83,84,85,86,87,88,89,90,91,92,93,94,95,96,97] (λ u=>[]) [] [] (λ u=>(λ zb=>if Nat.beq zb 100006 then .mk (Unit) (λ u=>bT x.af=(x.J.length:Int)/\1<=av/\1<=depth/\Bv gg x=true) (λ u=>0) [] [0,1,6,7,10,11,12,16,17,18,19,20,21,22,23,24,25,26,27,28,29,30,31,32,33,34,35,36,37,38,39,40,41,42,43,44,45,46,47,48,49,50,51,52] (λ u=>[]) [2,3,4,5,8,9,13,14,15,53,54,55,56,57,58,59,60,61,62,63,64,65,66,67,68,69,70,71,72,73,74,75,76,77,78,79,80,81,82,83,84,85,86,87,88,89,90,91,92,93,94,95,96,97] (λ u=>[]) [] [] (λ u=>(λ zb=>if Nat.beq zb 100008 then .mk (Unit) (λ u=>tB gg x=true/\1<=av/\1<=depth) (λ u=>0) [] [0,1,6,7,10,11,12,16,17,18,19,20,21,22,23,24,25,26,27,28,29,30,31,32,33,34,35,36,37,38,39,40,41,42,43,44,45,46,47,48,49,50,51,52,53,54,55,56,57,58,59,60,61,62,63,64,65,66,67,68,69,70,71,72,73,74] (λ u=>[]) [2,3,4,5,8,9,13,14,15,75,76,77,78,79,80,81,82,83,84,85,86,87,88,89,90,91,92,93,94,95,96,97] (λ u=>[]) [] [] (λ u=>(λ zb=>if Nat.beq zb 0 then .mk (Nat) (λ k=>k<=x.J.length/\cG (cR gg) (x.J.take k)=true/\1+(aw bq (x.J.take k):Int)<=av/\1+(dI bX (x.J.take k):Int)<=depth) (λ k=>x.J.length - k) [] [0,1,5,6,7,10,11,12,16,17,18,19,20,21,22,23,24,25,26,27,28,29,30,31,32,33,34,35,36,37,38,39,40,41,42,43,44,45,46,47,48,49,50,51,52,53,54,55,56,57,58,59,60,61,62,63,64,65,66,67,68,69,70,71,72,73,74,75,76,77] (λ k=>[(80, .az ⟨(.int .i64),((k:Int):Int)⟩),(2, .az ⟨(.int .i64),(av - (1+(aw bq (x.J.take k):Int)):Int)⟩)]) [2,3,4,8,9,13,14,15,78,79,80,81,82,83,84,85,86,87,88,89,90,91,92,93,94,95,96,97] (λ k=>[]) [] [] (λ k=>λ _ => .none) else .none)) else .none)) else .none)) else .none)
abbrev va(gg:bb)(x:ai)(av:Int)(depth:Int):Prop:=(∃ u1:Unit,((bT x.af=(x.J.length:Int)/\1<=av/\1<=depth)/\((av=av/\(depth=depth/\(gg=gg/\(x=x/\((dK x.af)=(dK x.af)/\True)))))/\True)))
abbrev vb(gg:bb)(x:ai)(av:Int)(depth:Int):Prop:=(x.J.length<=140737488355328 ->
 (ah ((x.J.length:Int)) ->
 (((!(decide ((bT x.af)=((x.J.length:Int)))))=true ->
 ((0:Int)=(qI gg x av depth)/\false=(nh gg x av depth)))/\((!(decide ((bT x.af)=((x.J.length:Int)))))=false ->
 (va gg x av depth)))))
abbrev vd(gg:bb)(x:ai)(av:Int)(depth:Int):Prop:=((true=true ->
 ((0:Int)=(qI gg x av depth)/\false=(nh gg x av depth)))/\(true=false ->
 (va gg x av depth)))
abbrev pM(gg:bb)(x:ai)(av:Int)(depth:Int):Prop:=(∃ u2:Unit,((bT x.af=(x.J.length:Int)/\1<=av/\1<=depth/\Bv gg x=true)/\((av=av/\(depth=depth/\(gg=gg/\(x=x/\True))))/\True)))
abbrev ve(gg:bb)(x:ai)(av:Int)(depth:Int):Prop:=(((!(dK x.af))=true ->
 (((!(jh x.cond))=true ->
 ((0:Int)=(qI gg x av depth)/\false=(nh gg x av depth)))/\((!(jh x.cond))=false ->
 (pM gg x av depth))))/\((!(dK x.af))=(!true) ->
 ((false=true ->
 ((0:Int)=(qI gg x av depth)/\false=(nh gg x av depth)))/\(false=false ->
 (pM gg x av depth)))))
abbrev vf(gg:bb)(x:ai)(av:Int)(depth:Int):Prop:=((true=true ->
 ((0:Int)=(qI gg x av depth)/\false=(nh gg x av depth)))/\(true=false ->
 (pM gg x av depth)))
abbrev pN(gg:bb)(x:ai)(av:Int)(depth:Int):Prop:=(∃ u3:Unit,((tB gg x=true/\1<=av/\1<=depth)/\((av=av/\(depth=depth/\(gg=gg/\(x=x/\True))))/\True)))
abbrev vg(gg:bb)(x:ai)(av:Int)(depth:Int):Prop:=(ah x.af ->
 (((!(decide (x.af=(3:Int))))=true ->
 (ah x.al ->
 (((!(decide (x.al=(0:Int))))=true ->
 ((0:Int)=(qI gg x av depth)/\false=(nh gg x av depth)))/\((!(decide (x.al=(0:Int))))=false ->
 (pN gg x av depth)))))/\((!(decide (x.af=(3:Int))))=(!true) ->
 ((false=true ->
 ((0:Int)=(qI gg x av depth)/\false=(nh gg x av depth)))/\(false=false ->
 (pN gg x av depth))))))
abbrev vh(gg:bb)(x:ai)(av:Int)(depth:Int):Prop:=((true=true ->
 ((0:Int)=(qI gg x av depth)/\false=(nh gg x av depth)))/\(true=false ->
 (pN gg x av depth)))
theorem HD(n:Nat)(gg:bb)(x:ai)(av:Int)(depth:Int):dd (bz [jS n,ld,iz,nF,ef] [] [] [4,5]) (aD iP) (yC gg x av depth) 0 (bO (bz [jS n,ld,iz,nF,ef] [] [] [4,5]) iP λ r=>bR r [⟨(.int .i64),qI gg x av depth⟩,⟨.bool,nh gg x av depth⟩]) (aU iP [.val ⟨(.st .sig),gg⟩, .val ⟨(.st .prog),x⟩, .val ⟨(.int .i64),av⟩, .val ⟨(.int .i64),depth⟩]) =
 ((ah x.af ->
 (ah (bT x.af) ->
 ((((decide (av=(0:Int)))=false ->
 (((decide (depth=(0:Int)))=false ->
 (vb gg x av depth))/\((decide (depth=(0:Int)))=(!false) ->
 (vd gg x av depth))))/\((decide (av=(0:Int)))=(!false) ->
 ((true=false ->
 (vb gg x av depth))/\(true=(!false) ->
 (vd gg x av depth)))))/\(∀ u1:Unit,((bT x.af=(x.J.length:Int)/\1<=av/\1<=depth) ->
 ((((dK x.af)=true ->
 (((!(E5 gg x.cond))=false ->
 (ve gg x av depth))/\((!(E5 gg x.cond))=(!false) ->
 (vf gg x av depth))))/\((dK x.af)=(!true) ->
 ((false=false ->
 (ve gg x av depth))/\(false=(!false) ->
 (vf gg x av depth)))))/\(∀ u2:Unit,((bT x.af=(x.J.length:Int)/\1<=av/\1<=depth/\Bv gg x=true) ->
 ((ah x.af ->
 (((decide (x.af=(3:Int)))=true ->
 (ah x.al ->
 (ah gg.aO ->
 (ah (gg.aO - (1:Int))/\((((!(decide ((0:Int)<=x.al/\x.al<=(gg.aO - (1:Int)))))=false) ->
 (vg gg x av depth))/\(((!(decide ((0:Int)<=x.al/\x.al<=(gg.aO - (1:Int)))))=(!false)) ->
 (vh gg x av depth)))))))/\((decide (x.af=(3:Int)))=(!true) ->
 ((false=false ->
 (vg gg x av depth))/\(false=(!false) ->
 (vh gg x av depth))))))/\(∀ u3:Unit,((tB gg x=true/\1<=av/\1<=depth) ->
 (ah (av - (1:Int))/\(x.J.length<=140737488355328 ->
 (ah ((x.J.length:Int)) ->
 ((∃ k4:Nat,((k4<=x.J.length/\cG (cR gg) (x.J.take k4)=true/\1+(aw bq (x.J.take k4):Int)<=av/\1+(dI bX (x.J.take k4):Int)<=depth)/\(((av - (1:Int))=(av - (1+(aw bq (x.J.take k4):Int)))/\(depth=depth/\(gg=gg/\(x.J=x.J/\(((x.J.length:Int))=((x.J.length:Int))/\((0:Int)=(k4:Int)/\True))))))/\True)))/\(∀ k4:Nat,((k4<=x.J.length/\cG (cR gg) (x.J.take k4)=true/\1+(aw bq (x.J.take k4):Int)<=av/\1+(dI bX (x.J.take k4):Int)<=depth) ->
 (((decide ((k4:Int)<((x.J.length:Int))))=true ->
 (aZ (k4:Int) x.J.length/\(ah (depth - (1:Int))/\((cd (ak (x.J.getD k4 zP))<n/\cf gg=true/\0<=(av - (1+(aw bq (x.J.take k4):Int)))/\(av - (1+(aw bq (x.J.take k4):Int)))<=1048576/\0<=(depth - (1:Int))/\(depth - (1:Int))<=1048576)/\(ah (qI gg (ak (x.J.getD k4 zP)) (av - (1+(aw bq (x.J.take k4):Int))) (depth - (1:Int))) ->
 (((!(nh gg (ak (x.J.getD k4 zP)) (av - (1+(aw bq (x.J.take k4):Int))) (depth - (1:Int))))=true ->
 ((0:Int)=(qI gg x av depth)/\false=(nh gg x av depth)))/\((!(nh gg (ak (x.J.getD k4 zP)) (av - (1+(aw bq (x.J.take k4):Int))) (depth - (1:Int))))=false ->
 (ah ((k4:Int)+(1:Int))/\(∃ k5:Nat,((k5<=x.J.length/\cG (cR gg) (x.J.take k5)=true/\1+(aw bq (x.J.take k5):Int)<=av/\1+(dI bX (x.J.take k5):Int)<=depth)/\(x.J.length - k5<x.J.length - k4/\(((qI gg (ak (x.J.getD k4 zP)) (av - (1+(aw bq (x.J.take k4):Int))) (depth - (1:Int)))=(av - (1+(aw bq (x.J.take k5):Int)))/\(depth=depth/\(gg=gg/\(x.J=x.J/\(((x.J.length:Int))=((x.J.length:Int))/\(((k4:Int)+(1:Int))=(k5:Int)/\True))))))/\True))))))))))))/\((decide ((k4:Int)<((x.J.length:Int))))=false ->
 ((av - (1+(aw bq (x.J.take k4):Int)))=(qI gg x av depth)/\true=(nh gg x av depth)))))))))))))))))))))):=by kernel_rfl
theorem He(n:Nat)(hE:aR [jS n,ld,iz,nF,ef]):bu.Good (jS (n+1)):=by
 refine⟨aB mT rfl (by decide),?_⟩
 show ∀ (gg:bb) (x:ai) (av:Int) (depth:Int),(cd x<n+1/\cf gg=true/\0<=av/\av<=1048576/\0<=depth/\depth<=1048576)->bL prog oA [.val ⟨(.st .sig),gg⟩, .val ⟨(.st .prog),x⟩, .val ⟨(.int .i64),av⟩, .val ⟨(.int .i64),depth⟩] (·=[⟨(.int .i64),qI gg x av depth⟩,⟨.bool,nh gg x av depth⟩])
 intro gg x av depth hp
 refine bB (wr:=[]) (cl:=[]) (ro:=[4,5]) hE mT C5 (yC gg x av depth) ?_
 rewrite [HD n gg x av depth]
 have fg:=Hu gg hp.2.1
 have fs:=JI gg x av depth
 rw[oF gg x,Fc x,uI x] at fs
 have f0:=nL x
 have f1:=qK bq x.J
 have f2:=zI bX x.J
 have f3:=all_zero (cR gg) x.J
 refine λ a0=>λ a1=>⟨⟨λ a2=>⟨λ a3=>λ a4=>λ a5=>⟨λ a6=>⟨?_,?_⟩,λ a6=>⟨(),⟨?_,⟨⟨rfl,⟨rfl,⟨rfl,⟨rfl,⟨rfl,trivial⟩⟩⟩⟩⟩,trivial⟩⟩⟩⟩,λ a3=>⟨λ a4=>⟨?_,?_⟩,λ a4=>⟨(),⟨?_,⟨⟨rfl,⟨rfl,⟨rfl,⟨rfl,⟨rfl,trivial⟩⟩⟩⟩⟩,trivial⟩⟩⟩⟩⟩,λ a2=>⟨λ a3=>λ a4=>λ a5=>⟨λ a6=>⟨?_,?_⟩,λ a6=>⟨(),⟨?_,⟨⟨rfl,⟨rfl,⟨rfl,⟨rfl,⟨rfl,trivial⟩⟩⟩⟩⟩,trivial⟩⟩⟩⟩,λ a3=>⟨λ a4=>⟨?_,?_⟩,λ a4=>⟨(),⟨?_,⟨⟨rfl,⟨rfl,⟨rfl,⟨rfl,⟨rfl,trivial⟩⟩⟩⟩⟩,trivial⟩⟩⟩⟩⟩⟩,λ u1=>λ a2=>⟨⟨λ a3=>⟨λ a4=>⟨λ a5=>⟨λ a6=>⟨?_,?_⟩,λ a6=>⟨(),⟨?_,⟨⟨rfl,⟨rfl,⟨rfl,⟨rfl,trivial⟩⟩⟩⟩,trivial⟩⟩⟩⟩,λ a5=>⟨λ a6=>⟨?_,?_⟩,λ a6=>⟨(),⟨?_,⟨⟨rfl,⟨rfl,⟨rfl,⟨rfl,trivial⟩⟩⟩⟩,trivial⟩⟩⟩⟩⟩,λ a4=>⟨λ a5=>⟨?_,?_⟩,λ a5=>⟨(),⟨?_,⟨⟨rfl,⟨rfl,⟨rfl,⟨rfl,trivial⟩⟩⟩⟩,trivial⟩⟩⟩⟩⟩,λ a3=>⟨λ a4=>⟨λ a5=>⟨λ a6=>⟨?_,?_⟩,λ a6=>⟨(),⟨?_,⟨⟨rfl,⟨rfl,⟨rfl,⟨rfl,trivial⟩⟩⟩⟩,trivial⟩⟩⟩⟩,λ a5=>⟨λ a6=>⟨?_,?_⟩,λ a6=>⟨(),⟨?_,⟨⟨rfl,⟨rfl,⟨rfl,⟨rfl,trivial⟩⟩⟩⟩,trivial⟩⟩⟩⟩⟩,λ a4=>⟨λ a5=>⟨?_,?_⟩,λ a5=>⟨(),⟨?_,⟨⟨rfl,⟨rfl,⟨rfl,⟨rfl,trivial⟩⟩⟩⟩,trivial⟩⟩⟩⟩⟩⟩,λ u2=>λ a3=>⟨λ a4=>⟨λ a5=>λ a6=>λ a7=>⟨?_,⟨λ a8=>λ a9=>⟨λ gl=>λ jn=>⟨λ a12=>⟨?_,?_⟩,λ a12=>⟨(),⟨?_,⟨⟨rfl,⟨rfl,⟨rfl,⟨rfl,trivial⟩⟩⟩⟩,trivial⟩⟩⟩⟩,λ gl=>⟨λ jn=>⟨?_,?_⟩,λ jn=>⟨(),⟨?_,⟨⟨rfl,⟨rfl,⟨rfl,⟨rfl,trivial⟩⟩⟩⟩,trivial⟩⟩⟩⟩⟩,λ a8=>⟨λ a9=>⟨?_,?_⟩,λ a9=>⟨(),⟨?_,⟨⟨rfl,⟨rfl,⟨rfl,⟨rfl,trivial⟩⟩⟩⟩,trivial⟩⟩⟩⟩⟩⟩,λ a5=>⟨λ a6=>λ a7=>⟨λ a8=>λ a9=>⟨λ gl=>⟨?_,?_⟩,λ gl=>⟨(),⟨?_,⟨⟨rfl,⟨rfl,⟨rfl,⟨rfl,trivial⟩⟩⟩⟩,trivial⟩⟩⟩⟩,λ a8=>⟨λ a9=>⟨?_,?_⟩,λ a9=>⟨(),⟨?_,⟨⟨rfl,⟨rfl,⟨rfl,⟨rfl,trivial⟩⟩⟩⟩,trivial⟩⟩⟩⟩⟩,λ a6=>⟨λ a7=>⟨?_,?_⟩,λ a7=>⟨(),⟨?_,⟨⟨rfl,⟨rfl,⟨rfl,⟨rfl,trivial⟩⟩⟩⟩,trivial⟩⟩⟩⟩⟩⟩,λ u3=>λ a4=>⟨?_,λ a5=>λ a6=>⟨⟨0,⟨?_,⟨⟨?_,⟨rfl,⟨rfl,⟨rfl,⟨rfl,⟨?_,trivial⟩⟩⟩⟩⟩⟩,trivial⟩⟩⟩,λ k4 a7=>have U9:=eu (cR gg) zP x.J k4;have Va:=fO (cR gg) zP x.J k4;have Vd:=fu (cR gg) x.J k4;have Ve:=ct zP x.J k4;have XT:=jG bq zP x.J k4;have XU:=cS bq x.J (k4+1);have XV:=nU bq x.J k4;have XW:=nJ bX zP x.J k4;have XX:=fN bX x.J (k4+1);have XY:=sa bX x.J k4;have Vb:=JI gg (x.J.getD k4 zP) (av - (1+(aw bq (x.J.take k4):Int))) (depth - 1);⟨λ a8=>⟨?_,⟨?_,⟨?_,λ a9=>⟨λ gl=>⟨?_,?_⟩,λ gl=>⟨?_,⟨k4+1,⟨?_,⟨?_,⟨⟨?_,⟨rfl,⟨rfl,⟨rfl,⟨rfl,⟨?_,trivial⟩⟩⟩⟩⟩⟩,trivial⟩⟩⟩⟩⟩⟩⟩⟩⟩,λ a8=>⟨?_,?_⟩⟩⟩⟩⟩⟩⟩
 all_goals try and_intros
 all_goals try simp only[M.eta,ai.eta,aG,bo] at *
 all_goals (first|rfl|trivial|(simp only[decide_eq_true_eq,decide_eq_false_iff_not,aZ,ah] at *;omega)|(rcases fs with ⟨t1,t2,t3,t4,t5⟩|⟨t1,t4,t5⟩<;>(try rw[t4])<;>(try rw[t5])<;>clear t4 t5<;>simp only[decide_eq_true_eq,decide_eq_false_iff_not,qe,Cg,Bv,Bool.and_eq_true,Bool.and_eq_false_iff,Bool.not_eq_true',Bool.not_eq_false',ah] at *<;>first|rfl|omega|grind|grind [bT]))
theorem I5 :∀ n,aR [jS n]
 | 0=>⟨⟨aB mT rfl (by decide),λ _ _ _ _ h=>absurd h.1 (a2s _)⟩,trivial⟩
 | n+1=>by
  have ih:=I5  n
  exact⟨He n ⟨ih.1,Dk,zu,Gr,qR,trivial⟩,trivial⟩
theorem Dj :bu.Good ot :=
 ⟨aB mT rfl (by decide),λ gg x av depth hp=>(I5  (cd x+1)).1.2 gg x av depth (⟨a2l _,hp⟩)⟩
def lq(n:Nat):bu:=⟨pH,[.v (.st .sig), .r (.st .prog)],λ (gg:bb) (x:ai)=>⟨(some (cd x<n/\cf gg=true),[⟨.bool,cR gg x⟩])⟩⟩
def pD:bu:=⟨pH,[.v (.st .sig), .r (.st .prog)],λ (gg:bb) (x:ai)=>⟨(some (cf gg=true),[⟨.bool,cR gg x⟩])⟩⟩
def AI(gg:bb)(x:ai):Nat->aW:=(λ zb=>if Nat.beq zb 100003 then .mk (Unit) (λ u=>bT x.af=(x.J.length:Int)) (λ u=>0) [] [0,3,6,7,8,9,10,11,12,13,14,15,16] (λ u=>[]) [1,2,4,5,17,18,19,20,21,22,23,24,25,26,27,28,29,30,31,32,33,34,35,36,37,38,39,40,41,42,43,44,45,46,47,48,49,50,51,52,53,54,55,56,57,58,59,60,61,62,63,64,65,66,67,68,69,70,71,72,73,74,75,76,77,78,79,80,81,82,83,84,85,86,87,88,89,90,91,92] (λ u=>[]) [] [] (λ u=>(λ zb=>if Nat.beq zb 100005 then .mk (Unit) (λ u=>bT x.af=(x.J.length:Int)/\Cg gg x=true) (λ u=>0) [] [0,3,6,7,8,9,10,11,12,13,14,15,16,17,18,19,20,21,22,23,24,25,26,27,28,29,30,31,32,33,34,35,36,37,38,39,40,41,42,43,44,45,46] (λ u=>[]) [1,2,4,5,47,48,49,50,51,52,53,54,55,56,57,58,59,60,61,62,63,64,65,66,67,68,69,70,71,72,73,74,75,76,77,78,79,80,81,82,83,84,85,86,87,88,89,90,91,92] (λ u=>[]) [] [] (λ u=>(λ zb=>if Nat.beq zb 100007 then .mk (Unit) (λ u=>tB gg x=true) (λ u=>0) [] [0,3,6,7,8,9,10,11,12,13,14,15,16,17,18,19,20,21,22,23,24,25,26,27,28,29,30,31,32,33,34,35,36,37,38,39,40,41,42,43,44,45,46,47,48,49,50,51,52,53,54,55,56,57,58,59,60,61,62,63,64,65,66,67,68,69,70,71,72,73,74] (λ u=>[]) [1,2,4,5,75,76,77,78,79,80,81,82,83,84,85,86,87,88,89,90,91,92] (λ u=>[]) [] [] (λ u=>(λ zb=>if Nat.beq zb 0 then .mk (Nat) (λ k=>k<=x.J.length/\cG (cR gg) (x.J.take k)=true) (λ k=>x.J.length - k) [] [0,3,6,7,8,9,10,11,12,13,14,15,16,17,18,19,20,21,22,23,24,25,26,27,28,29,30,31,32,33,34,35,36,37,38,39,40,41,42,43,44,45,46,47,48,49,50,51,52,53,54,55,56,57,58,59,60,61,62,63,64,65,66,67,68,69,70,71,72,73,74] (λ k=>[(5, .az ⟨(.int .i64),((k:Int):Int)⟩)]) [1,2,4,5,75,76,77,78,79,80,81,82,83,84,85,86,87,88,89,90,91,92] (λ k=>[]) [] [] (λ k=>λ _ => .none) else .none)) else .none)) else .none)) else .none)
abbrev wA(gg:bb)(x:ai):Prop:=(ah x.af ->
 (((!(decide (x.af=(3:Int))))=true ->
 (ah x.al ->
 (((!(decide (x.al=(0:Int))))=true ->
 false=(cR gg x))/\((!(decide (x.al=(0:Int))))=false ->
 (∃ u2:Unit,((bT x.af=(x.J.length:Int)/\Cg gg x=true)/\((x=x/\(gg=gg/\True))/\True)))))))/\((!(decide (x.af=(3:Int))))=(!true) ->
 ((false=true ->
 false=(cR gg x))/\(false=false ->
 (∃ u2:Unit,((bT x.af=(x.J.length:Int)/\Cg gg x=true)/\((x=x/\(gg=gg/\True))/\True))))))))
abbrev wB(gg:bb)(x:ai):Prop:=((true=true ->
 false=(cR gg x))/\(true=false ->
 (∃ u2:Unit,((bT x.af=(x.J.length:Int)/\Cg gg x=true)/\((x=x/\(gg=gg/\True))/\True)))))
abbrev wC(gg:bb)(x:ai):Prop:=(ah x.af ->
 (((!(dK x.af))=true ->
 (((!(jh x.cond))=true ->
 false=(cR gg x))/\((!(jh x.cond))=false ->
 (∃ u3:Unit,(tB gg x=true/\((x=x/\(gg=gg/\True))/\True))))))/\((!(dK x.af))=(!true) ->
 ((false=true ->
 false=(cR gg x))/\(false=false ->
 (∃ u3:Unit,(tB gg x=true/\((x=x/\(gg=gg/\True))/\True))))))))
theorem IZ(n:Nat)(gg:bb)(x:ai):dd (bz [lq n,mr,dz,mo,mq,mu] [] [] [2]) (aD jD) (AI gg x) 0 (bO (bz [lq n,mr,dz,mo,mq,mu] [] [] [2]) jD λ r=>bR r [⟨.bool,cR gg x⟩]) (aU jD [.val ⟨(.st .sig),gg⟩, .ref ⟨(.st .prog),x⟩]) =
 (((x.J.length<=140737488355328 ->
 (ah ((x.J.length:Int)) ->
 (ah x.af ->
 (ah (bT x.af) ->
 (((!(decide (((x.J.length:Int))=(bT x.af))))=true ->
 false=(cR gg x))/\((!(decide (((x.J.length:Int))=(bT x.af))))=false ->
 (∃ u1:Unit,(bT x.af=(x.J.length:Int)/\((x=x/\(gg=gg/\True))/\True)))))))))/\(∀ u1:Unit,(bT x.af=(x.J.length:Int) ->
 ((((decide (x.af=(3:Int)))=true ->
 (ah (gg.aO - (1:Int))/\(ah x.af ->
 (ah x.al ->
 (ah gg.aO ->
 ((((!(decide ((0:Int)<=x.al/\x.al<=(gg.aO - (1:Int)))))=false) ->
 (wA gg x))/\(((!(decide ((0:Int)<=x.al/\x.al<=(gg.aO - (1:Int)))))=(!false)) ->
 (wB gg x))))))))/\((decide (x.af=(3:Int)))=(!true) ->
 (ah x.af ->
 ((false=false ->
 (wA gg x))/\(false=(!false) ->
 (wB gg x))))))/\(∀ u2:Unit,((bT x.af=(x.J.length:Int)/\Cg gg x=true) ->
 ((((dK x.af)=true ->
 (ah x.af ->
 (((!(Nj gg x.cond))=false ->
 (wC gg x))/\((!(Nj gg x.cond))=(!false) ->
 ((true=true ->
 false=(cR gg x))/\(true=false ->
 (∃ u3:Unit,(tB gg x=true/\((x=x/\(gg=gg/\True))/\True)))))))))/\((dK x.af)=(!true) ->
 (ah x.af ->
 ((false=false ->
 (wC gg x))/\(false=(!false) ->
 ((true=true ->
 false=(cR gg x))/\(true=false ->
 (∃ u3:Unit,(tB gg x=true/\((x=x/\(gg=gg/\True))/\True))))))))))/\(∀ u3:Unit,(tB gg x=true ->
 ((∃ k4:Nat,((k4<=x.J.length/\cG (cR gg) (x.J.take k4)=true)/\((x=x/\(gg=gg/\((0:Int)=(k4:Int)/\True)))/\True)))/\(∀ k4:Nat,((k4<=x.J.length/\cG (cR gg) (x.J.take k4)=true) ->
 (x.J.length<=140737488355328 ->
 (ah ((x.J.length:Int)) ->
 (((decide ((k4:Int)<((x.J.length:Int))))=true ->
 (aZ (k4:Int) x.J.length/\(x.J.length<=140737488355328 ->
 ((cd (x.J.getD k4 zP)<n/\cf gg=true)/\(((!(cR gg (x.J.getD k4 zP)))=true ->
 false=(cR gg x))/\((!(cR gg (x.J.getD k4 zP)))=false ->
 (ah ((k4:Int)+(1:Int))/\(∃ k5:Nat,((k5<=x.J.length/\cG (cR gg) (x.J.take k5)=true)/\(x.J.length - k5<x.J.length - k4/\((x=x/\(gg=gg/\(((k4:Int)+(1:Int))=(k5:Int)/\True)))/\True)))))))))))/\((decide ((k4:Int)<((x.J.length:Int))))=false ->
 true=(cR gg x)))))))))))))))))):=by kernel_rfl
theorem IJ(n:Nat)(hE:aR [lq n,mr,dz,mo,mq,mu]):bu.Good (lq (n+1)):=by
 refine⟨aB n7 rfl (by decide),?_⟩
 show ∀ (gg:bb) (x:ai),(cd x<n+1/\cf gg=true)->bL prog pH [.val ⟨(.st .sig),gg⟩, .ref ⟨(.st .prog),x⟩] (·=[⟨.bool,cR gg x⟩])
 intro gg x hp
 refine bB (wr:=[]) (cl:=[]) (ro:=[2]) hE n7 EC (AI gg x) ?_
 rewrite [IZ n gg x]
 have fg:=Hu gg hp.2
 have f0:=nL x
 have f1:=all_zero (cR gg) x.J
 refine⟨λ a0=>λ a1=>λ a2=>λ a3=>⟨λ a4=>?_,λ a4=>⟨(),⟨?_,⟨⟨rfl,⟨rfl,trivial⟩⟩,trivial⟩⟩⟩⟩,λ u1=>λ a0=>⟨⟨λ a1=>⟨?_,λ a2=>λ a3=>λ a4=>⟨λ a5=>λ a6=>⟨λ a7=>λ a8=>⟨λ a9=>?_,λ a9=>⟨(),⟨?_,⟨⟨rfl,⟨rfl,trivial⟩⟩,trivial⟩⟩⟩⟩,λ a7=>⟨λ a8=>?_,λ a8=>⟨(),⟨?_,⟨⟨rfl,⟨rfl,trivial⟩⟩,trivial⟩⟩⟩⟩⟩,λ a5=>⟨λ a6=>?_,λ a6=>⟨(),⟨?_,⟨⟨rfl,⟨rfl,trivial⟩⟩,trivial⟩⟩⟩⟩⟩⟩,λ a1=>λ a2=>⟨λ a3=>λ a4=>⟨λ a5=>λ a6=>⟨λ a7=>?_,λ a7=>⟨(),⟨?_,⟨⟨rfl,⟨rfl,trivial⟩⟩,trivial⟩⟩⟩⟩,λ a5=>⟨λ a6=>?_,λ a6=>⟨(),⟨?_,⟨⟨rfl,⟨rfl,trivial⟩⟩,trivial⟩⟩⟩⟩⟩,λ a3=>⟨λ a4=>?_,λ a4=>⟨(),⟨?_,⟨⟨rfl,⟨rfl,trivial⟩⟩,trivial⟩⟩⟩⟩⟩⟩,λ u2=>λ a1=>⟨⟨λ a2=>λ a3=>⟨λ a4=>λ a5=>⟨λ a6=>⟨λ a7=>?_,λ a7=>⟨(),⟨?_,⟨⟨rfl,⟨rfl,trivial⟩⟩,trivial⟩⟩⟩⟩,λ a6=>⟨λ a7=>?_,λ a7=>⟨(),⟨?_,⟨⟨rfl,⟨rfl,trivial⟩⟩,trivial⟩⟩⟩⟩⟩,λ a4=>⟨λ a5=>?_,λ a5=>⟨(),⟨?_,⟨⟨rfl,⟨rfl,trivial⟩⟩,trivial⟩⟩⟩⟩⟩,λ a2=>λ a3=>⟨λ a4=>λ a5=>⟨λ a6=>⟨λ a7=>?_,λ a7=>⟨(),⟨?_,⟨⟨rfl,⟨rfl,trivial⟩⟩,trivial⟩⟩⟩⟩,λ a6=>⟨λ a7=>?_,λ a7=>⟨(),⟨?_,⟨⟨rfl,⟨rfl,trivial⟩⟩,trivial⟩⟩⟩⟩⟩,λ a4=>⟨λ a5=>?_,λ a5=>⟨(),⟨?_,⟨⟨rfl,⟨rfl,trivial⟩⟩,trivial⟩⟩⟩⟩⟩⟩,λ u3=>λ a2=>⟨⟨0,⟨?_,⟨⟨rfl,⟨rfl,⟨?_,trivial⟩⟩⟩,trivial⟩⟩⟩,λ k4 a3=>have U6:=eu (cR gg) zP x.J k4;have U7:=fO (cR gg) zP x.J k4;have U8:=fu (cR gg) x.J k4;have Z1:=ct zP x.J k4;λ a4=>λ a5=>⟨λ a6=>⟨?_,λ a7=>⟨?_,⟨λ a8=>?_,λ a8=>⟨?_,⟨k4+1,⟨?_,⟨?_,⟨⟨rfl,⟨rfl,⟨?_,trivial⟩⟩⟩,trivial⟩⟩⟩⟩⟩⟩⟩⟩,λ a6=>?_⟩⟩⟩⟩⟩
 all_goals try and_intros
 all_goals try rw[oF gg x]
 all_goals first|rfl|trivial|(simp only[decide_eq_true_eq,decide_eq_false_iff_not,aZ,ah] at *;omega)|((try simp only[qe,Cg,Bv,Wt] at *);first|rfl|omega|grind [aZ,ah]|grind [bT,aZ,ah])
theorem I8 :∀ n,aR [lq n]
 | 0=>⟨⟨aB n7 rfl (by decide),λ _ _ h=>absurd h.1 (a2s _)⟩,trivial⟩
 | n+1=>by
  have ih:=I8  n
  exact⟨IJ n ⟨ih.1,EN,oh,EL,EM,EP,trivial⟩,trivial⟩
theorem ER :bu.Good pD :=
 ⟨aB n7 rfl (by decide),λ gg x hp=>(I8  (cd x+1)).1.2 gg x (⟨a2l _,hp⟩)⟩
def nG:bu:=⟨vl,[.v (.st .sig), .v (.st .prog)],λ (gg:bb) (x:ai)=>⟨(some (cf gg=true),[⟨.bool,yr gg x⟩])⟩⟩
def BW(gg:bb)(x:ai):Nat->aW:=λ _ => .none
theorem Km(gg:bb)(x:ai):dd (bz [ot] [] [] [2,3]) (aD kN) (BW gg x) 0 (bO (bz [ot] [] [] [2,3]) kN λ r=>bR r [⟨.bool,yr gg x⟩]) (aU kN [.val ⟨(.st .sig),gg⟩, .val ⟨(.st .prog),x⟩]) =
 (((cf gg=true/\0<=(60:Int)/\(60:Int)<=1048576/\0<=(20:Int)/\(20:Int)<=1048576)/\(ah (qI gg x (60:Int) (20:Int)) ->
 (nh gg x (60:Int) (20:Int))=(yr gg x)))):=by kernel_rfl
theorem Kb(hE:aR [ot]):bu.Good nG:=by
 refine⟨aB Ao rfl (by decide),?_⟩
 show ∀ (gg:bb) (x:ai),(cf gg=true)->bL prog vl [.val ⟨(.st .sig),gg⟩, .val ⟨(.st .prog),x⟩] (·=[⟨.bool,yr gg x⟩])
 intro gg x hp
 refine bB (wr:=[]) (cl:=[]) (ro:=[2,3]) hE Ao FZ (BW gg x) ?_
 rewrite [Km gg x]
 refine⟨?_,λ a0=>?_⟩
 all_goals try and_intros
 all_goals first|rfl|trivial|omega|(simp only[a1F,a1L,aZ,ah,dD,eM,j0,fI] at *;omega)|(simp[aZ,ah] at *;omega)|grind
theorem Gs:bu.Good nG:=Kb ⟨Dj,trivial⟩
def pd:bu:=⟨xk,[.v (.st .sig), .r (.st .prog)],λ (gg:bb) (x:ai)=>⟨(none,[⟨.bool,Dz gg x⟩])⟩⟩
def D4(gg:bb)(x:ai):Nat->aW:=λ _ => .none
abbrev Aw(gg:bb)(x:ai):Prop:=(bX x<=1048576/\(ah ((bX x:Int)) ->
 (((decide (((bX x:Int))<=(20:Int)))=true ->
 (cf gg=true/\(cR gg x)=(Dz gg x)))/\((decide (((bX x:Int))<=(20:Int)))=(!true) ->
 false=(Dz gg x)))))
theorem M4(gg:bb)(x:ai):dd (bz [ei,pC,ow,pD] [] [] [2]) (aD mJ) (D4 gg x) 0 (bO (bz [ei,pC,ow,pD] [] [] [2]) mJ λ r=>bR r [⟨.bool,Dz gg x⟩]) (aU mJ [.val ⟨(.st .sig),gg⟩, .ref ⟨(.st .prog),x⟩]) =
 ((((cf gg)=true ->
 ((0<=(60:Int)/\(60:Int)<=1048576)/\(ah (iH (bq x) (60:Int)) ->
 (((decide ((0:Int)<=(iH (bq x) (60:Int))))=true ->
 (Aw gg x))/\((decide ((0:Int)<=(iH (bq x) (60:Int))))=(!true) ->
 ((false=true ->
 (cf gg=true/\(cR gg x)=(Dz gg x)))/\(false=(!true) ->
 false=(Dz gg x))))))))/\((cf gg)=(!true) ->
 ((false=true ->
 (Aw gg x))/\(false=(!true) ->
 ((false=true ->
 (cf gg=true/\(cR gg x)=(Dz gg x)))/\(false=(!true) ->
 false=(Dz gg x)))))))):=by kernel_rfl
theorem Mx(hE:aR [ei,pC,ow,pD]):bu.Good pd:=by
 refine⟨aB Bl rfl (by decide),?_⟩
 show ∀ (gg:bb) (x:ai),True->bL prog xk [.val ⟨(.st .sig),gg⟩, .ref ⟨(.st .prog),x⟩] (·=[⟨.bool,Dz gg x⟩])
 intro gg x _
 refine bB (wr:=[]) (cl:=[]) (ro:=[2]) hE Bl HX (D4 gg x) ?_
 rewrite [M4 gg x]
 have f1:=pJ (bq x) 60
 have f2:=DQ x
 have f3:Dz gg x=(cf gg&&(cR gg x&&decide ((bq x:Int)<=60)&&decide ((bX x:Int)<=20))):=rfl
 refine⟨λ a0=>⟨?_,λ a1=>⟨λ a2=>⟨?_,λ a3=>⟨λ a4=>⟨?_,?_⟩,λ a4=>?_⟩⟩,λ a2=>⟨λ a3=>⟨?_,?_⟩,λ a3=>?_⟩⟩⟩,λ a0=>⟨λ a1=>⟨?_,λ a2=>⟨λ a3=>⟨?_,?_⟩,λ a3=>?_⟩⟩,λ a1=>⟨λ a2=>⟨?_,?_⟩,λ a2=>?_⟩⟩⟩
 all_goals try and_intros
 all_goals try rw[f3]
 all_goals first|rfl|trivial|omega|(simp only[a1F,a1L,a2k,a2Q] at *;omega)|grind
theorem Ig:bu.Good pd:=Mx ⟨qS,EO,Dq,ER,trivial⟩
end
end Go.Proofs.YtaaamahdcpcofaaDoor

set_option maxRecDepth 4000
set_option maxHeartbeats 4000000
namespace Go.Proofs.YtaaamahdcpcofaaDoor
noncomputable section
def PY(k n:Int)(c p q:List UInt8):List UInt8:=if k=1 then [115,107,105,112] else if k=2 then [102,97,105,108] else if k=3 then [97]++od n else if k=4 then [97,115,115,101,114,116,32]++c
 else if k=5 then [123]++p++[59,32]++q++[125] else if k=6 then [105,102,32]++c++[32,116,104,101,110,32]++p++[32,101,108,115,101,32]++q++[32,102,105] else [119,104,105,108,101,32]++c++[32,100,111,32]++p++[32,111,100]
mutual
def cw:ai->List UInt8
 | ⟨k,n,c,ks⟩=>PY k n (br c) ((JN ks).getD 0 []) ((JN ks).getD 1 [])
def JN:List ai->List (List UInt8)
 | []=>[]
 | k::ks=>cw k::JN ks
end
theorem sC(z:ai):∀ (xs:List ai) (i:Nat),i<xs.length->(JN xs).getD i []=cw (xs.getD i z)
 | [],i,h=>by simp at h
 | x::xs,0,h=>by simp[JN]
 | x::xs,i+1,h=>by
  have:=sC z xs i (by simpa using h)
  simpa [JN] using this
theorem Ag(x:ai):cw x=PY x.af x.al (br x.cond) ((JN x.J).getD 0 []) ((JN x.J).getD 1 []):=by
 cases x;rfl
def dW(x:ai):Prop:=∃ gg,cf gg=true/\cR gg x=true
theorem Sq(gg:bb)(x:M)(hg:cf gg=true)(h:E5 gg x=true):dx x=true/\(br x).length<=1000:=by
 simp only[E5,a1z,L4] at h
 rw[z6] at hg
 rw[zV _ (by omega),zV _ (by omega)] at h
 have ht:=Cx _ _ 9 9 (by omega) (by omega) x h.1.1
 have:=tu (cd x+1) x (a2l _) ht
 exact⟨ht,by have:=h.1.2.1;omega⟩
theorem nv(x:ai)(h:dW x)(i:Nat)(hi:i<x.J.length):dW (x.J.getD i zP)/\cd (x.J.getD i zP)<cd x:=by
 obtain⟨gg,hg,ht⟩:=h
 rw[oF] at ht
 simp only[a1z] at ht
 refine⟨⟨gg,hg,HR _ _ _ _ hi ht.2⟩,?_⟩
 have:=ct (zP:ai) x.J i hi
 have:=nL x
 omega
theorem wh(x:ai)(h:dW x):x.af=1\/x.af=2\/x.af=3\/x.af=4\/x.af=5\/x.af=6\/x.af=7:=by
 obtain⟨gg,hg,ht⟩:=h
 rw[oF,qe] at ht
 simp only[a1z,a1F] at ht
 have h1:=ht.1.1.1
 unfold bT at h1
 split at h1
 .omega
 .split at h1
  .omega
  .split at h1<;>omega
theorem BH(x:ai)(h:dW x):((x.af=5\/x.af=6)->x.J.length=2)/\(x.af=7->x.J.length=1):=by
 obtain⟨gg,hg,ht⟩:=h
 rw[oF,qe] at ht
 simp only[a1z,a1F] at ht
 have h1:=ht.1.1.1
 refine⟨λ e=>?_,λ e=>?_⟩
 .rcases e with e|e<;>rw[e] at h1<;>simp[bT] at h1<;>omega
 .rw[e] at h1;simp[bT] at h1;omega
theorem R2(x:ai)(h:dW x)(e:x.af=3):0<=x.al/\x.al<=9:=by
 obtain⟨gg,hg,ht⟩:=h
 have ha:=(z6 gg).1 hg
 rw[oF,qe] at ht
 simp only[a1z,a1F,Cg,a1S e] at ht
 omega
theorem BG(x:ai)(h:dW x)(e:x.af=4\/x.af=6\/x.af=7):dx x.cond=true/\(br x.cond).length<=1000:=by
 obtain⟨gg,hg,ht⟩:=h
 rw[oF,qe] at ht
 simp only[a1z,a1F,Bv] at ht
 have ha:dK x.af=true:=by unfold dK;rcases e with e|e|e<;>simp[e]
 rw[a1S ha] at ht
 exact Sq gg _ hg ht.1.2
structure AP(x:ai)(i:Nat):Prop where
 kt:dW (x.J.getD i zP)
 less:cd (x.J.getD i zP)<cd x
 len:(cw (x.J.getD i zP)).length<=(cw x).length
structure P3(x:ai):Prop where
 kt:dx x.cond=true
 len:(br x.cond).length<=(cw x).length
 Wg:(br x.cond).length<=1000
theorem Rv(x:ai)(e:x.af=1):cw x=[115,107,105,112]:=by rw[Ag];simp[PY,e]
theorem Rw(x:ai)(e:x.af=2):cw x=[102,97,105,108]:=by rw[Ag];simp[PY,e]
theorem Rx(x:ai)(h:dW x)(e:x.af=3):0<=x.al/\x.al<=9/\(od x.al).length=1/\cw x=[97]++od x.al:=by
 have:=R2 x h e
 exact⟨this.1,this.2,Gf _ this,by rw[Ag];simp[PY,e]⟩
theorem Ry(x:ai)(h:dW x)(e:x.af=4):P3 x/\cw x=[97,115,115,101,114,116,32]++br x.cond:=by
 have hc:=BG x h (.inl e)
 have ht:cw x=[97,115,115,101,114,116,32]++br x.cond:=by rw[Ag];simp[PY,e]
 exact⟨⟨hc.1,by rw[ht];simp;omega,hc.2⟩,ht⟩
theorem Rz(x:ai)(h:dW x)(e:x.af=5):x.J.length=2/\AP x 0/\AP x 1/\cw x=[123]++cw (x.J.getD 0 zP)++[59,32]++cw (x.J.getD 1 zP)++[125]:=by
 have hl:=(BH x h).1 (.inl e)
 have h0:=nv x h 0 (by omega)
 have h1:=nv x h 1 (by omega)
 have ht:cw x=[123]++cw (x.J.getD 0 zP)++[59,32]++cw (x.J.getD 1 zP)++[125]:=by
  rw[Ag,sC zP x.J 0 (by omega),sC zP x.J 1 (by omega)];simp[PY,e]
 exact⟨hl,⟨h0.1,h0.2,by rw[ht];simp;omega⟩,⟨h1.1,h1.2,by rw[ht];simp;omega⟩,ht⟩
theorem RA(x:ai)(h:dW x)(e:x.af=6):x.J.length=2/\P3 x/\AP x 0/\AP x 1 /\
  cw x=[105,102,32]++br x.cond++[32,116,104,101,110,32]++cw (x.J.getD 0 zP)++[32,101,108,115,101,32]++cw (x.J.getD 1 zP)++[32,102,105]:=by
 have hl:=(BH x h).1 (.inr e)
 have hc:=BG x h (.inr (.inl e))
 have h0:=nv x h 0 (by omega)
 have h1:=nv x h 1 (by omega)
 have ht:cw x=[105,102,32]++br x.cond++[32,116,104,101,110,32]++cw (x.J.getD 0 zP)++[32,101,108,115,101,32]++cw (x.J.getD 1 zP)++[32,102,105]:=by
  rw[Ag,sC zP x.J 0 (by omega),sC zP x.J 1 (by omega)];simp[PY,e]
 exact⟨hl,⟨hc.1,by rw[ht];simp;omega,hc.2⟩,⟨h0.1,h0.2,by rw[ht];simp;omega⟩,⟨h1.1,h1.2,by rw[ht];simp;omega⟩,ht⟩
theorem RC(x:ai)(h:dW x)(e1:¬ x.af=1)(e2:¬ x.af=2)(e3:¬ x.af=3)(e4:¬ x.af=4)(e5:¬ x.af=5)(e6:¬ x.af=6):x.J.length=1/\P3 x/\AP x 0 /\
  cw x=[119,104,105,108,101,32]++br x.cond++[32,100,111,32]++cw (x.J.getD 0 zP)++[32,111,100]:=by
 have e:x.af=7:=by have:=wh x h;omega
 have hl:=(BH x h).2 e
 have hc:=BG x h (.inr (.inr e))
 have h0:=nv x h 0 (by omega)
 have ht:cw x=[119,104,105,108,101,32]++br x.cond++[32,100,111,32]++cw (x.J.getD 0 zP)++[32,111,100]:=by
  rw[Ag,sC zP x.J 0 (by omega)];simp[PY,e]
 exact⟨hl,⟨hc.1,by rw[ht];simp;omega,hc.2⟩,⟨h0.1,h0.2,by rw[ht];simp;omega⟩,ht⟩
theorem Yo(f:ai->Nat)(z:ai)(xs:List ai)(h:xs.length=2):aw f xs=f (xs.getD 0 z)+f (xs.getD 1 z):=by
 match xs,h with
 | [a,b],_=>simp[aw]
theorem a0O(f:ai->Nat)(z:ai)(xs:List ai)(h:xs.length=1):aw f xs=f (xs.getD 0 z):=by
 match xs,h with
 | [a],_=>simp[aw]
theorem yX:∀ (N:Nat) (x:ai),cd x<N->dW x->(cw x).length<=1100 * bq x
 | 0,x,h,_=>by omega
 | N+1,x,hN,h=>by
  have hn:=Fc x
  rcases wh x h with e|e|e|e|e|e|e
  .rw[Rv x e];simp;omega
  .rw[Rw x e];simp;omega
  .obtain⟨_,_,h1,h2⟩:=Rx x h e;rw[h2];simp;omega
  .obtain⟨h1,h2⟩:=Ry x h e;rw[h2];have:=h1.Wg;simp;omega
  .obtain⟨hl,h0,h1,h2⟩:=Rz x h e
   have i0:=yX N _ (by have:=h0.less;omega) h0.kt
   have i1:=yX N _ (by have:=h1.less;omega) h1.kt
   rw[Yo _ zP _ hl] at hn
   rw[h2];simp only[a1T,a1M,a2b];omega
  .obtain⟨hl,hc,h0,h1,h2⟩:=RA x h e
   have i0:=yX N _ (by have:=h0.less;omega) h0.kt
   have i1:=yX N _ (by have:=h1.less;omega) h1.kt
   have ic:=hc.Wg
   rw[Yo _ zP _ hl] at hn
   rw[h2];simp only[a1T,a1M,a2b];omega
  .obtain⟨hl,hc,h0,h2⟩:=RC x h (by omega) (by omega) (by omega) (by omega) (by omega) (by omega)
   have i0:=yX N _ (by have:=h0.less;omega) h0.kt
   have ic:=hc.Wg
   rw[a0O _ zP _ hl] at hn
   rw[h2];simp only[a1T,a1M,a2b];omega
def jT(n:Nat):bu:=⟨oB,[.v (.st .prog)],λ (x:ai)=>⟨(some (cd x<n/\dW x/\(cw x).length<=1000000),[⟨.str,cw x⟩])⟩⟩
def ou:bu:=⟨oB,[.v (.st .prog)],λ (x:ai)=>⟨(some (dW x/\(cw x).length<=1000000),[⟨.str,cw x⟩])⟩⟩
def yF(x:ai):Nat->aW:=λ _ => .none
theorem HF(n:Nat)(x:ai):dd (bz [jT n,rh,pz] [] [] [1]) (aD iR) (yF x) 0 (bO (bz [jT n,rh,pz] [] [] [1]) iR λ r=>bR r [⟨.str,cw x⟩]) (aU iR [.val ⟨(.st .prog),x⟩]) =
 ((ah x.af ->
 (((decide (x.af=(1:Int)))=true ->
 ([115,107,105,112])=(cw x))/\((decide (x.af=(1:Int)))=false ->
 (((decide (x.af=(2:Int)))=true ->
 ([102,97,105,108])=(cw x))/\((decide (x.af=(2:Int)))=false ->
 (((decide (x.af=(3:Int)))=true ->
 (ah x.al ->
 ((0<=x.al/\x.al<=9)/\((od x.al).length<=140737488355328 ->
 (([97]).length+(od x.al).length<=140737488355328/\(([97])++(od x.al))=(cw x))))))/\((decide (x.af=(3:Int)))=false ->
 (((decide (x.af=(4:Int)))=true ->
 ((dx x.cond=true/\(br x.cond).length<=1000000)/\((br x.cond).length<=140737488355328 ->
 (([97,115,115,101,114,116,32]).length+(br x.cond).length<=140737488355328/\(([97,115,115,101,114,116,32])++(br x.cond))=(cw x)))))/\((decide (x.af=(4:Int)))=false ->
 (((decide (x.af=(5:Int)))=true ->
 (aZ (0:Int) x.J.length/\((cd (x.J.getD 0 zP)<n/\dW (x.J.getD 0 zP)/\(cw (x.J.getD 0 zP)).length<=1000000)/\(([123]).length+(cw (x.J.getD 0 zP)).length<=140737488355328/\((([123])++(cw (x.J.getD 0 zP))).length+([59,32]).length<=140737488355328/\(aZ (1:Int) x.J.length/\((cd (x.J.getD 1 zP)<n/\dW (x.J.getD 1 zP)/\(cw (x.J.getD 1 zP)).length<=1000000)/\(x.J.length<=140737488355328 ->
 ((cw (x.J.getD 0 zP)).length<=140737488355328 ->
 (x.J.length<=140737488355328 ->
 ((cw (x.J.getD 1 zP)).length<=140737488355328 ->
 (((([123])++(cw (x.J.getD 0 zP)))++([59,32])).length+(cw (x.J.getD 1 zP)).length<=140737488355328/\((((([123])++(cw (x.J.getD 0 zP)))++([59,32]))++(cw (x.J.getD 1 zP))).length+([125]).length<=140737488355328/\((((([123])++(cw (x.J.getD 0 zP)))++([59,32]))++(cw (x.J.getD 1 zP)))++([125]))=(cw x))))))))))))))/\((decide (x.af=(5:Int)))=false ->
 (((decide (x.af=(6:Int)))=true ->
 ((dx x.cond=true/\(br x.cond).length<=1000000)/\(([105,102,32]).length+(br x.cond).length<=140737488355328/\((([105,102,32])++(br x.cond)).length+([32,116,104,101,110,32]).length<=140737488355328/\(aZ (0:Int) x.J.length/\((cd (x.J.getD 0 zP)<n/\dW (x.J.getD 0 zP)/\(cw (x.J.getD 0 zP)).length<=1000000)/\(((([105,102,32])++(br x.cond))++([32,116,104,101,110,32])).length+(cw (x.J.getD 0 zP)).length<=140737488355328/\((((([105,102,32])++(br x.cond))++([32,116,104,101,110,32]))++(cw (x.J.getD 0 zP))).length+([32,101,108,115,101,32]).length<=140737488355328/\(aZ (1:Int) x.J.length/\((cd (x.J.getD 1 zP)<n/\dW (x.J.getD 1 zP)/\(cw (x.J.getD 1 zP)).length<=1000000)/\((br x.cond).length<=140737488355328 ->
 (x.J.length<=140737488355328 ->
 ((cw (x.J.getD 0 zP)).length<=140737488355328 ->
 (x.J.length<=140737488355328 ->
 ((cw (x.J.getD 1 zP)).length<=140737488355328 ->
 (((((([105,102,32])++(br x.cond))++([32,116,104,101,110,32]))++(cw (x.J.getD 0 zP)))++([32,101,108,115,101,32])).length+(cw (x.J.getD 1 zP)).length<=140737488355328/\((((((([105,102,32])++(br x.cond))++([32,116,104,101,110,32]))++(cw (x.J.getD 0 zP)))++([32,101,108,115,101,32]))++(cw (x.J.getD 1 zP))).length+([32,102,105]).length<=140737488355328/\((((((([105,102,32])++(br x.cond))++([32,116,104,101,110,32]))++(cw (x.J.getD 0 zP)))++([32,101,108,115,101,32]))++(cw (x.J.getD 1 zP)))++([32,102,105]))=(cw x))))))))))))))))))/\((decide (x.af=(6:Int)))=false ->
 ((dx x.cond=true/\(br x.cond).length<=1000000)/\(([119,104,105,108,101,32]).length+(br x.cond).length<=140737488355328/\((([119,104,105,108,101,32])++(br x.cond)).length+([32,100,111,32]).length<=140737488355328/\(aZ (0:Int) x.J.length/\((cd (x.J.getD 0 zP)<n/\dW (x.J.getD 0 zP)/\(cw (x.J.getD 0 zP)).length<=1000000)/\((br x.cond).length<=140737488355328 ->
 (x.J.length<=140737488355328 ->
 ((cw (x.J.getD 0 zP)).length<=140737488355328 ->
 (((([119,104,105,108,101,32])++(br x.cond))++([32,100,111,32])).length+(cw (x.J.getD 0 zP)).length<=140737488355328/\((((([119,104,105,108,101,32])++(br x.cond))++([32,100,111,32]))++(cw (x.J.getD 0 zP))).length+([32,111,100]).length<=140737488355328/\((((([119,104,105,108,101,32])++(br x.cond))++([32,100,111,32]))++(cw (x.J.getD 0 zP)))++([32,111,100]))=(cw x))))))))))))))))))))))))):=by kernel_rfl
theorem Hg(n:Nat)(hE:aR [jT n,rh,pz]):bu.Good (jT (n+1)):=by
 refine⟨aB mU rfl (by decide),?_⟩
 show ∀ (x:ai),(cd x<n+1/\dW x/\(cw x).length<=1000000)->bL prog oB [.val ⟨(.st .prog),x⟩] (·=[⟨.str,cw x⟩])
 intro x hp
 refine bB (wr:=[]) (cl:=[]) (ro:=[1]) hE mU C9 (yF x) ?_
 rewrite [HF n x]
 obtain⟨hm,hg,hl⟩:=hp
 have f1:=Rv x
 have f2:=Rw x
 have f3:=Rx x hg
 have f4:=Ry x hg
 have f5:=Rz x hg
 have f6:=RA x hg
 have f7:=RC x hg
 refine λ a0=>⟨λ a1=>?_,λ a1=>⟨λ a2=>?_,λ a2=>⟨λ a3=>λ a4=>⟨?_,λ a5=>⟨?_,?_⟩⟩,λ a3=>⟨λ a4=>⟨?_,λ a5=>⟨?_,?_⟩⟩,λ a4=>⟨λ a5=>⟨?_,⟨?_,⟨?_,⟨?_,⟨?_,⟨?_,λ a6=>λ a7=>λ a8=>λ a9=>⟨?_,⟨?_,?_⟩⟩⟩⟩⟩⟩⟩⟩,λ a5=>⟨λ a6=>⟨?_,⟨?_,⟨?_,⟨?_,⟨?_,⟨?_,⟨?_,⟨?_,⟨?_,λ a7=>λ a8=>λ a9=>λ gl=>λ jn=>⟨?_,⟨?_,?_⟩⟩⟩⟩⟩⟩⟩⟩⟩⟩⟩,λ a6=>⟨?_,⟨?_,⟨?_,⟨?_,⟨?_,λ a7=>λ a8=>λ a9=>⟨?_,⟨?_,?_⟩⟩⟩⟩⟩⟩⟩⟩⟩⟩⟩⟩⟩
 all_goals try and_intros
 all_goals ((try simp only[a1F,a1L,aZ] at *);(first|replace f1:=f1 (by with_reducible assumption)|clear f1);(first|replace f2:=f2 (by with_reducible assumption)|clear f2);(first|replace f3:=f3 (by with_reducible assumption)|clear f3);(first|replace f4:=f4 (by with_reducible assumption)|clear f4);(first|replace f5:=f5 (by with_reducible assumption)|clear f5);(first|replace f6:=f6 (by with_reducible assumption)|clear f6);(first|replace f7:=f7 (by with_reducible assumption) (by with_reducible assumption) (by with_reducible assumption) (by with_reducible assumption) (by with_reducible assumption) (by with_reducible assumption)|clear f7);(try obtain⟨a3,b3,b3b,c3⟩:=f3);(try obtain⟨a4,c4⟩:=f4);(try obtain⟨a5,b5,b5b,c5⟩:=f5);(try obtain⟨a6,b6,b6b,b6c,c6⟩:=f6);(try obtain⟨a7,b7,b7b,c7⟩:=f7);first|rfl|omega|exact AP.kt (by assumption)|exact P3.kt (by assumption)|exact f1.symm|exact f2.symm|(have t0:=P3.Wg ‹P3 x›;omega)|(have t0:=AP.len ‹AP x 0›;have t1:=AP.less ‹AP x 0›;omega)|(have t0:=AP.len ‹AP x 1›;have t1:=AP.less ‹AP x 1›;omega)|exact (Eq.symm (by assumption))|(simp only[a1T,a1M,a2b];(try have s0:=P3.Wg ‹P3 x›);(try have t0:=AP.len ‹AP x 0›);(try have t1:=AP.len ‹AP x 1›);omega))
theorem FR :∀ n,aR [jT n]
 | 0=>⟨⟨aB mU rfl (by decide),λ _ h=>absurd h.1 (a2s _)⟩,trivial⟩
 | n+1=>by
  have ih:=FR  n
  exact⟨Hg n ⟨ih.1,Gv,EH,trivial⟩,trivial⟩
theorem Dl :bu.Good ou :=
 ⟨aB mU rfl (by decide),λ x hp=>(FR  (cd x+1)).1.2 x (⟨a2l _,hp⟩)⟩
end
end Go.Proofs.YtaaamahdcpcofaaDoor

namespace Go.Proofs.YtaaamahdcpcofaaDoor
noncomputable section
abbrev zQ:ai:=ai.mk (0:Int) (0:Int) zE []
structure RG where
 p:ai
 ok:Bool
 a:Int
def AR(c:Bool)(t:List UInt8)(a:Int)(s:List UInt8):Int:=bif c then O t a s else a
def UB(t:List UInt8)(x y:RG):RG:=⟨ai.mk 5 0 zX [x.p,y.p],x.ok&&aE t x.a.toNat [59,32]&&y.ok&&aE t y.a.toNat [125],AR (x.ok&&aE t x.a.toNat [59,32]&&y.ok) t y.a [125]⟩
def Ub(t:List UInt8)(c:RI)(x y:RG):RG:=⟨ai.mk 6 0 c.e [x.p,y.p],aE t c.a [32,116,104,101,110,32]&&c.ok&&x.ok&&aE t x.a.toNat [32,101,108,115,101,32]&&y.ok&&aE t y.a.toNat [32,102,105],AR (aE t c.a [32,116,104,101,110,32]&&c.ok&&x.ok&&aE t x.a.toNat [32,101,108,115,101,32]&&y.ok) t y.a [32,102,105]⟩
def UG(t:List UInt8)(c:RI)(x:RG):RG:=⟨ai.mk 7 0 c.e [x.p],aE t c.a [32,100,111,32]&&c.ok&&x.ok&&aE t x.a.toNat [32,111,100],AR (aE t c.a [32,100,111,32]&&c.ok&&x.ok) t x.a [32,111,100]⟩
def yR(t:List UInt8):Nat->Int->RG
 | 0,a=>⟨zQ,false,a⟩
 | d+1,a =>
  if aE t a.toNat [115,107,105,112]=true then ⟨ai.mk 1 0 zX [],true,a+4⟩ else
  if aE t a.toNat [102,97,105,108]=true then ⟨ai.mk 2 0 zX [],true,a+4⟩ else
  if aE t a.toNat [97,115,115,101,114,116,32]=true then ⟨ai.mk 4 0 (xE t 40 (a+7)).e [],(xE t 40 (a+7)).ok,((xE t 40 (a+7)).a:Int)⟩ else
  if aE t a.toNat [97]=true then ⟨ai.mk 3 (uK t (a+1)) zX [],gv t (a+1).toNat,ub t (a+1)⟩ else
  if aE t a.toNat [123]=true then UB t (yR t d (a+1)) (yR t d (O t (yR t d (a+1)).a [59,32])) else
  if aE t a.toNat [105,102,32]=true then Ub t (xE t 40 (a+3)) (yR t d (O t ((xE t 40 (a+3)).a:Int) [32,116,104,101,110,32])) (yR t d (O t (yR t d (O t ((xE t 40 (a+3)).a:Int) [32,116,104,101,110,32])).a [32,101,108,115,101,32])) else
  if aE t a.toNat [119,104,105,108,101,32]=true then UG t (xE t 40 (a+6)) (yR t d (O t ((xE t 40 (a+6)).a:Int) [32,100,111,32])) else ⟨zQ,false,a⟩
theorem Rs{t:List UInt8}{a:Nat}{b c d:UInt8}{r:List UInt8}(h:t.drop a=b::c::r)(hn:c≠d)(s:List UInt8):aE t a (b::d::s)=false:=by
 cases e:aE t a (b::d::s) with
 | false=>rfl
 | true =>
  obtain⟨r',h'⟩:=(tp _ _ _).1 e
  rw[h] at h'
  simp only[a2I,a1C,a1Z] at h'
  exact absurd h'.1 hn
theorem eY{t w r:List UInt8}{a:Int}(h0:0<=a)(h:t.drop a.toNat=w++r)(n:Int)(hn:n=a+(w.length:Int)):t.drop n.toNat=r:=by
 subst hn
 rw[show (a+(w.length:Int)).toNat=a.toNat+w.length by omega]
 exact cb h
theorem mQ{t w r:List UInt8}{a:Int}(h:t.drop a.toNat=w++r):O t a w=a+(w.length:Int):=by unfold O;rw[cE h];rfl
theorem S3(t:List UInt8)(a:Int)(x:M)(r:List UInt8)(h0:0<=a)(h:dx x=true)(h40:bp x<=40)(hr:Uj 42 r)(hd:t.drop a.toNat=br x++r):xE t 40 a=⟨x,true,a.toNat+(br x).length⟩:=by
 obtain⟨m,n,c,e1,e2,e3,e4,e5,e6⟩:=MF _ _ (a2l _) h
 exact NP (dU t 41) t a.toNat r x c m n e1 e2 e3 e6 (by omega) (by omega) hr hd (λ r' LS=>NI _ c (a2l _) e2 e3 t 41 (a.toNat+n) r' (by omega) (by omega) LS)
theorem ie(x:ai)(k n:Int)(c:M)(ks:List ai)(h1:x.af=k)(h2:x.al=n)(h3:x.cond=c)(h4:x.J=ks):x=ai.mk k n c ks:=by
 cases x;simp at h1 h2 h3 h4;simp[h1,h2,h3,h4]
theorem IK(x:ai)(h:x.J.length=1):x.J=[(x.J.getD 0 zP)]:=by
 cases x with
 | mk k n c ks =>
  match ks,h with
  | [a],_=>rfl
theorem vz(x:ai)(h:x.J.length=2):x.J=[(x.J.getD 0 zP),(x.J.getD 1 zP)]:=by
 cases x with
 | mk k n c ks =>
  match ks,h with
  | [a,b],_=>rfl
theorem Oe(x:M)(h:jh x=true):x=zX:=by
 cases x with
 | mk k n ks =>
  simp only[jh,a1z,a1F] at h
  obtain⟨⟨h1,h2⟩,h3⟩:=h
  have:=a2D h3
  subst this;subst h1;subst h2;rfl
structure PF(x:ai):Prop where
 al:¬ x.af=3->x.al=0
 none:x.af=1\/x.af=2\/x.af=3\/x.af=5->x.cond=zX
 leaf:x.af=1\/x.af=2\/x.af=3\/x.af=4->x.J=[]
 Bw:x.af=4\/x.af=6\/x.af=7->bp x.cond<=40
theorem pf(x:ai)(h:dW x):PF x:=by
 obtain⟨gg,hg,ht⟩:=h
 rw[oF,qe] at ht
 simp only[a1z,a1F] at ht
 obtain⟨⟨⟨h1,h2⟩,h3⟩,_⟩:=ht
 refine⟨λ e=>?_,λ e=>?_,λ e=>?_,λ e=>?_⟩
 .simpa [Cg,e] using h2
 .have ha:dK x.af=false:=by unfold dK;rcases e with e|e|e|e<;>simp[e]
  unfold Bv at h3
  rw[a1B (by rw[ha];decide)] at h3
  exact Oe _ h3
 .have:x.J.length=0:=by rcases e with e|e|e|e<;>rw[e] at h1<;>simp[bT] at h1<;>omega
  exact a2D this
 .have ha:dK x.af=true:=by unfold dK;rcases e with e|e|e<;>simp[e]
  unfold Bv at h3
  rw[a1S ha] at h3
  simp only[E5,a1z] at h3
  exact (Sr gg _ hg h3.1).2.1
theorem Mk{b:UInt8}{l r:List UInt8}(h:b≠42)(e:r=b::l):Uj 42 r:=λ b' l' g=>by rw[e] at g;simp only[a1C] at g;rw[<-g.1];exact h
theorem Pv(f:ai->Nat)(x:ai)(h:x.J.length=2):dI f x.J=max (f (x.J.getD 0 zP)) (f (x.J.getD 1 zP)):=by
 rw[vz x h];simp[dI]
theorem Wi(f:ai->Nat)(x:ai)(h:x.J.length=1):dI f x.J=f (x.J.getD 0 zP):=by
 rw[IK x h];simp[dI]
theorem NJ{t r:List UInt8}{a:Int}(n:Int)(h0:0<=a)(hn:0<=n/\n<=9)(ht:t.drop a.toNat=[97]++od n++r):∃ b,od n=[b]/\b=UInt8.ofNat (48+n.toNat)/\b≠115/\t.drop a.toNat=97::b::r/\t.drop (a+1).toNat=b::r/\gv t (a+1).toNat=true/\uK t (a+1)=n:=by
 have hg:od n=[UInt8.ofNat (48+n.toNat)]:=by unfold od;rw[Lib.decDigits_one (by omega)]
 rw[hg] at ht
 have h1:t.drop a.toNat=97::UInt8.ofNat (48+n.toNat)::r:=by rw[ht];rfl
 have h2:t.drop (a+1).toNat=UInt8.ofNat (48+n.toNat)::r:=eY (w:=[97]) h0 h1 _ (by simp)
 obtain⟨g1,g2⟩:=zp h2
 have hb:(UInt8.ofNat (48+n.toNat)).toNat=48+n.toNat:=by rw[a3Y];omega
 have TX:gv t (a+1).toNat=true:=by unfold gv;rw[g2,hb,decide_eq_true g1,decide_eq_true (by omega),decide_eq_true (by omega)];rfl
 refine⟨_,hg,rfl,λ e=>?_,h1,h2,TX,?_⟩
 .have:=congrArg UInt8.toNat e
  rw[hb] at this
  have:(115:UInt8).toNat=115:=rfl
  omega
 .unfold uK;rw[TX,g2,hb];show ((48+n.toNat:Nat):Int) - 48=n;omega
theorem CV:∀ (N:Nat) (x:ai),cd x<N->dW x->∀ (t:List UInt8) (d:Nat) (a:Int) (r:List UInt8),bX x<=d->0<=a->Uj 42 r->t.drop a.toNat=cw x++r->yR t d a=⟨x,true,a+((cw x).length:Int)⟩
 | 0,x,h,_=>by omega
 | N+1,x,hN,h=>by
  intro t d a r hd h0 hr ht
  have F:=pf x h
  have LL:=uI x
  obtain⟨d,rfl⟩:∃ d',d=d'+1:=⟨d - 1,by omega⟩
  have ne:∀ (b:UInt8) (l:List UInt8),t.drop a.toNat=b::l->∀ (c:UInt8) (s:List UInt8),b≠c->¬ aE t a.toNat (c::s)=true:=λ b l e c s hn=>by rw[kG e hn];decide
  rcases wh x h with e|e|e|e|e|e|e
  .rw[Rv x e] at ht ⊢
   have hx:=ie x 1 0 zX [] e (F.al (by omega)) (F.none (by omega)) (F.leaf (by omega))
   rw[yR,a1S (cE ht),<-hx];rfl
  .rw[Rw x e] at ht ⊢
   have hx:=ie x 2 0 zX [] e (F.al (by omega)) (F.none (by omega)) (F.leaf (by omega))
   have n:=ne 102 _ ht
   rw[yR,a1B (n 115 _ (by decide)),a1S (cE ht),<-hx];rfl
  .obtain⟨n0,n9,n1,hT⟩:=Rx x h e
   rw[hT] at ht ⊢
   obtain⟨b,k1,k2,k3,k4,k5,k6,k7⟩:=NJ x.al h0 ⟨n0,n9⟩ ht
   have hx:=ie x 3 x.al zX [] e rfl (F.none (by omega)) (F.leaf (by omega))
   have n:=ne 97 _ k4
   rw[yR,a1B (n 115 _ (by decide)),a1B (n 102 _ (by decide)),a1B (by rw[Rs k4 k3];decide),a1S (cE (s:=[97]) k4),k6,k7,<-hx]
   unfold ub;rw[k6,k1]
   simp only[RG.mk.injEq,a1Z,a2R,a1T,a1M,a2b];omega
  .obtain⟨hc,hT⟩:=Ry x h e
   rw[hT] at ht ⊢
   rw[a2t] at ht
   have hx:=ie x 4 0 x.cond [] e (F.al (by omega)) rfl (F.leaf (by omega))
   have n:=ne 97 _ ht
   have p1:t.drop (a+7).toNat=br x.cond++r:=eY h0 ht _ (by simp)
   have q1:=S3 t (a+7) x.cond r (by omega) hc.kt (F.Bw (by omega)) hr p1
   rw[yR,a1B (n 115 _ (by decide)),a1B (n 102 _ (by decide)),a1S (cE ht),q1]
   simp only[RG.mk.injEq,a1Z,a1T,a1M,a2b]
   exact⟨hx.symm,by omega⟩
  .obtain⟨hl,k0,k1,hT⟩:=Rz x h e
   rw[hT] at ht ⊢
   rw[Pv _ x hl] at LL
   have hx:=ie x 5 0 zX _ e (F.al (by omega)) (F.none (by omega)) (vz x hl)
   have ni:t.drop a.toNat=[123]++(cw (x.J.getD 0 zP)++([59,32]++(cw (x.J.getD 1 zP)++([125]++r)))):=by rw[ht];simp
   have n:=ne 123 _ ni
   have p1:t.drop (a+1).toNat=_:=eY h0 ni _ (by simp)
   have q1:=CV N _ (by have:=k0.less;omega) k0.kt t d (a+1) _ (by omega) (by omega) (Mk (by decide) rfl) p1
   have p2:t.drop (a+1+((cw (x.J.getD 0 zP)).length:Int)).toNat=_:=eY (by omega) p1 _ rfl
   have p3:=eY (by omega) p2 _ rfl
   have q2:=CV N _ (by have:=k1.less;omega) k1.kt t d _ _ (by omega) (by omega) (Mk (by decide) rfl) p3
   have p4:=eY (by omega) p3 _ rfl
   have y2:=cE p2
   have y4:=cE p4
   rw[yR,a1B (n 115 _ (by decide)),a1B (n 102 _ (by decide)),a1B (n 97 _ (by decide)),a1B (n 97 _ (by decide)),a1S (cE ni)]
   unfold UB AR
   rw[q1]
   simp only
   rw[mQ p2,q2]
   simp only
   rw[y2,y4,mQ p4,<-hx]
   simp only[a2V,a2R,RG.mk.injEq,a1Z,a1T,a1M,a2b];omega
  .obtain⟨hl,hc,k0,k1,hT⟩:=RA x h e
   rw[hT] at ht ⊢
   rw[Pv _ x hl] at LL
   have hx:=ie x 6 0 x.cond _ e (F.al (by omega)) rfl (vz x hl)
   have ni:t.drop a.toNat=[105,102,32]++(br x.cond++([32,116,104,101,110,32]++(cw (x.J.getD 0 zP)++([32,101,108,115,101,32]++(cw (x.J.getD 1 zP)++([32,102,105]++r)))))):=by rw[ht];simp
   have n:=ne 105 _ ni
   have p0:t.drop (a+3).toNat=_:=eY h0 ni _ (by simp)
   have q0:=S3 t (a+3) x.cond _ (by omega) hc.kt (F.Bw (by omega)) (Mk (by decide) rfl) p0
   have ea:(((a+3).toNat+(br x.cond).length:Nat):Int)=a+3+((br x.cond).length:Int):=by omega
   have p1:t.drop (a+3+((br x.cond).length:Int)).toNat=_:=eY (by omega) p0 _ rfl
   have p2:=eY (by omega) p1 _ rfl
   have q1:=CV N _ (by have:=k0.less;omega) k0.kt t d _ _ (by omega) (by omega) (Mk (by decide) rfl) p2
   have p3:=eY (by omega) p2 _ rfl
   have p4:=eY (by omega) p3 _ rfl
   have q2:=CV N _ (by have:=k1.less;omega) k1.kt t d _ _ (by omega) (by omega) (Mk (by decide) rfl) p4
   have p5:=eY (by omega) p4 _ rfl
   have y1:=cE p1
   rw[show (a+3+((br x.cond).length:Int)).toNat=(a+3).toNat+(br x.cond).length by omega] at y1
   rw[yR,a1B (n 115 _ (by decide)),a1B (n 102 _ (by decide)),a1B (n 97 _ (by decide)),a1B (n 97 _ (by decide)),a1B (n 123 _ (by decide)),a1S (cE ni)]
   unfold Ub AR
   rw[q0]
   simp only
   rw[ea,mQ p1,q1]
   simp only
   rw[mQ p3,q2]
   simp only
   rw[y1,cE p3,cE p5,mQ p5,<-hx]
   simp only[a2V,a2R,RG.mk.injEq,a1Z,a1T,a1M,a2b];omega
  .obtain⟨hl,hc,k0,hT⟩:=RC x h (by omega) (by omega) (by omega) (by omega) (by omega) (by omega)
   rw[hT] at ht ⊢
   rw[Wi _ x hl] at LL
   have hx:=ie x 7 0 x.cond _ e (F.al (by omega)) rfl (IK x hl)
   have ni:t.drop a.toNat=[119,104,105,108,101,32]++(br x.cond++([32,100,111,32]++(cw (x.J.getD 0 zP)++([32,111,100]++r)))):=by rw[ht];simp
   have n:=ne 119 _ ni
   have p0:t.drop (a+6).toNat=_:=eY h0 ni _ (by simp)
   have q0:=S3 t (a+6) x.cond _ (by omega) hc.kt (F.Bw (by omega)) (Mk (by decide) rfl) p0
   have ea:(((a+6).toNat+(br x.cond).length:Nat):Int)=a+6+((br x.cond).length:Int):=by omega
   have p1:t.drop (a+6+((br x.cond).length:Int)).toNat=_:=eY (by omega) p0 _ rfl
   have p2:=eY (by omega) p1 _ rfl
   have q1:=CV N _ (by have:=k0.less;omega) k0.kt t d _ _ (by omega) (by omega) (Mk (by decide) rfl) p2
   have p3:=eY (by omega) p2 _ rfl
   have y1:=cE p1
   rw[show (a+6+((br x.cond).length:Int)).toNat=(a+6).toNat+(br x.cond).length by omega] at y1
   rw[yR,a1B (n 115 _ (by decide)),a1B (n 102 _ (by decide)),a1B (n 97 _ (by decide)),a1B (n 97 _ (by decide)),a1B (n 123 _ (by decide)),a1B (n 105 _ (by decide)),a1S (cE ni)]
   unfold UG AR
   rw[q0]
   simp only
   rw[ea,mQ p1,q1]
   simp only
   rw[y1,cE p3,mQ p3,<-hx]
   simp only[a2V,a2R,RG.mk.injEq,a1Z,a1T,a1M,a2b];omega
structure RT where
 p:ai
 a:Int
 L:Int
 bad:Bool
def aF(t:List UInt8)(a:Int)(s:List UInt8)(bad:Bool):Bool:=bif aE t a.toNat s then bad else true
def Cs(t:List UInt8)(x y:RT):RT:=⟨ai.mk 5 0 zX [x.p,y.p],O t y.a [125],y.L - 1,aF t y.a [125] y.bad⟩
def QT(t:List UInt8)(c:M)(x y:RT):RT:=⟨ai.mk 6 0 c [x.p,y.p],O t y.a [32,102,105],y.L - 1,aF t y.a [32,102,105] y.bad⟩
def DF(t:List UInt8)(c:M)(x:RT):RT:=⟨ai.mk 7 0 c [x.p],O t x.a [32,111,100],x.L - 1,aF t x.a [32,111,100] x.bad⟩
def gh(t:List UInt8):Nat->Int->Int->Bool->RT
 | 0,a,L,_=>⟨zQ,a,L+1,true⟩
 | g+1,a,L,bad=>if bad=true then ⟨zQ,a,L+1,true⟩ else
  if aE t a.toNat [115,107,105,112]=true then ⟨ai.mk 1 0 zX [],a+4,L,false⟩ else
  if aE t a.toNat [102,97,105,108]=true then ⟨ai.mk 2 0 zX [],a+4,L,false⟩ else
  if aE t a.toNat [97,115,115,101,114,116,32]=true then ⟨ai.mk 4 0 (aS t (a+7) (L+1) false).e [],((aS t (a+7) (L+1) false).a:Int),((aS t (a+7) (L+1) false).L:Int) - 1,(aS t (a+7) (L+1) false).bad⟩ else
  if aE t a.toNat [97]=true then ⟨ai.mk 3 (bP t a.toNat (L+1).toNat).e.al zX [],((bP t a.toNat (L+1).toNat).a:Int),L,(bP t a.toNat (L+1).toNat).bad⟩ else
  if aE t a.toNat [123]=true then Cs t (gh t g (a+1) (L+1) false) (gh t g (O t (gh t g (a+1) (L+1) false).a [59,32]) (gh t g (a+1) (L+1) false).L (aF t (gh t g (a+1) (L+1) false).a [59,32] (gh t g (a+1) (L+1) false).bad)) else
  if aE t a.toNat [105,102,32]=true then QT t (aS t (a+3) (L+1) false).e (gh t g (O t ((aS t (a+3) (L+1) false).a:Int) [32,116,104,101,110,32]) ((aS t (a+3) (L+1) false).L:Int) (aF t ((aS t (a+3) (L+1) false).a:Int) [32,116,104,101,110,32] (aS t (a+3) (L+1) false).bad))
   (gh t g (O t (gh t g (O t ((aS t (a+3) (L+1) false).a:Int) [32,116,104,101,110,32]) ((aS t (a+3) (L+1) false).L:Int) (aF t ((aS t (a+3) (L+1) false).a:Int) [32,116,104,101,110,32] (aS t (a+3) (L+1) false).bad)).a [32,101,108,115,101,32])
    (gh t g (O t ((aS t (a+3) (L+1) false).a:Int) [32,116,104,101,110,32]) ((aS t (a+3) (L+1) false).L:Int) (aF t ((aS t (a+3) (L+1) false).a:Int) [32,116,104,101,110,32] (aS t (a+3) (L+1) false).bad)).L
    (aF t (gh t g (O t ((aS t (a+3) (L+1) false).a:Int) [32,116,104,101,110,32]) ((aS t (a+3) (L+1) false).L:Int) (aF t ((aS t (a+3) (L+1) false).a:Int) [32,116,104,101,110,32] (aS t (a+3) (L+1) false).bad)).a [32,101,108,115,101,32]
     (gh t g (O t ((aS t (a+3) (L+1) false).a:Int) [32,116,104,101,110,32]) ((aS t (a+3) (L+1) false).L:Int) (aF t ((aS t (a+3) (L+1) false).a:Int) [32,116,104,101,110,32] (aS t (a+3) (L+1) false).bad)).bad)) else
  if aE t a.toNat [119,104,105,108,101,32]=true then DF t (aS t (a+6) (L+1) false).e (gh t g (O t ((aS t (a+6) (L+1) false).a:Int) [32,100,111,32]) ((aS t (a+6) (L+1) false).L:Int) (aF t ((aS t (a+6) (L+1) false).a:Int) [32,100,111,32] (aS t (a+6) (L+1) false).bad)) else
  ⟨zQ,a,L,true⟩
theorem pk(t:List UInt8)(g:Nat)(a L:Int):gh t g a L true=⟨zQ,a,L+1,true⟩:=by cases g<;>rfl
def kx(P:Int->Int->Bool->RT)(t:List UInt8)(s:List UInt8)(a L:Int)(bad:Bool):RT:=P (O t a s) L (aF t a s bad)
def gH(t:List UInt8)(a L:Int):RT:=⟨zQ,((aS t a L false).a:Int),((aS t a L false).L:Int),(aS t a L false).bad⟩
theorem KI(t:List UInt8)(g:Nat)(a L:Int):gh t (g+1) a L false =
  if aE t a.toNat [115,107,105,112]=true then ⟨ai.mk 1 0 zX [],a+4,L,false⟩ else
  if aE t a.toNat [102,97,105,108]=true then ⟨ai.mk 2 0 zX [],a+4,L,false⟩ else
  if aE t a.toNat [97,115,115,101,114,116,32]=true then ⟨ai.mk 4 0 (aS t (a+7) (L+1) false).e [],((aS t (a+7) (L+1) false).a:Int),((aS t (a+7) (L+1) false).L:Int) - 1,(aS t (a+7) (L+1) false).bad⟩ else
  if aE t a.toNat [97]=true then ⟨ai.mk 3 (bP t a.toNat (L+1).toNat).e.al zX [],((bP t a.toNat (L+1).toNat).a:Int),L,(bP t a.toNat (L+1).toNat).bad⟩ else
  if aE t a.toNat [123]=true then (let X:=gh t g (a+1) (L+1) false;Cs t X (kx (gh t g) t [59,32] X.a X.L X.bad)) else
  if aE t a.toNat [105,102,32]=true then (let C:=gH t (a+3) (L+1);let X:=kx (gh t g) t [32,116,104,101,110,32] C.a C.L C.bad;QT t (aS t (a+3) (L+1) false).e X (kx (gh t g) t [32,101,108,115,101,32] X.a X.L X.bad)) else
  if aE t a.toNat [119,104,105,108,101,32]=true then (let C:=gH t (a+6) (L+1);DF t (aS t (a+6) (L+1) false).e (kx (gh t g) t [32,100,111,32] C.a C.L C.bad)) else
  ⟨zQ,a,L,true⟩:=rfl
theorem wW{t s:List UInt8}{a:Int}{bad:Bool}(h:aF t a s bad=false):bad=false/\aE t a.toNat s=true:=by
 unfold aF at h
 cases e:aE t a.toNat s
 .rw[e] at h;cases h
 .rw[e] at h;exact⟨h,rfl⟩
theorem wU{t s:List UInt8}{a:Int}(h0:0<=a)(h:aE t a.toNat s=true):t.drop a.toNat=s++t.drop (O t a s).toNat/\0<=O t a s:=by
 obtain⟨r,hr⟩:=(tp _ _ _).1 h
 have e:=mQ hr
 rw[e,eY h0 hr _ rfl]
 exact⟨hr,by omega⟩
structure P6(t:List UInt8)(a L:Int)(r:RT):Prop where
 ex:r.bad=false->r.L=L/\0<=r.a/\∃ W,t.drop a.toNat=W++t.drop r.a.toNat/\(dW r.p->W=cw r.p)
theorem ud(t:List UInt8)(a L:Int)(h0:0<=L)(h:(aS t a L false).bad=false):((aS t a L false).L:Int)=L/\∃ W,t.drop a.toNat=W++t.drop (aS t a L false).a/\(dx (aS t a L false).e=true->W=br (aS t a L false).e):=by
 have s:En t a.toNat L.toNat (aS t a L false):=rW (cz t (99 - L).toNat) t a.toNat L.toNat false (λ h=>zD t _ _ _ (by omega))
 obtain⟨h1,h2⟩:=s.ex h
 exact⟨by omega,h2⟩
theorem UW{P:Int->Int->Bool->RT}{t s:List UInt8}{a L:Int}{bad:Bool}(h0:0<=a)(hP:∀ a,0<=a->P6 t a L (P a L false))(hb:∀ a,(P a L true).bad=true)(h:(kx P t s a L bad).bad=false) :
  bad=false/\(kx P t s a L bad).L=L/\0<=(kx P t s a L bad).a/\∃ W,t.drop a.toNat=s++(W++t.drop (kx P t s a L bad).a.toNat)/\(dW (kx P t s a L bad).p->W=cw (kx P t s a L bad).p):=by
 unfold kx at h ⊢
 cases e:aF t a s bad with
 | true=>rw[e,hb] at h;cases h
 | false =>
  rw[e] at h
  obtain⟨e1,e2⟩:=wW e
  obtain⟨k1,k2⟩:=wU h0 e2
  obtain⟨q1,q2,W,q3,q4⟩:=(hP _ k2).ex h
  exact⟨e1,q1,q2,W,by rw[k1,q3],q4⟩
theorem Yi{c:M}{k:Int}{p q:ai}(h:dW (ai.mk k 0 c [p,q])):dW p/\dW q:=⟨(nv _ h 0 (by simp)).1,(nv _ h 1 (by simp)).1⟩
theorem Vq(n:Int)(h:0<=n/\n<=9):dx (M.mk 4 n [])=true:=by
 unfold dx
 rw[qL,rX]
 simp[cQ,zR,cG,h.1,h.2]
theorem a0K(t:List UInt8)(a L:Nat)(r:List UInt8)(h:t.drop a=97::r):(bP t a L).e=M.mk 4 (bP t a L).e.al []:=by
 unfold bP;rw[if_pos (show bE t a=97 from fH h)]
theorem Lp{t s:List UInt8}{y:RT}(h0:0<=y.a)(h:aF t y.a s y.bad=false):y.bad=false/\t.drop y.a.toNat=s++t.drop (O t y.a s).toNat/\0<=O t y.a s:=by
 obtain⟨e1,e2⟩:=wW h
 obtain⟨k1,k2⟩:=wU h0 e2
 exact⟨e1,k1,k2⟩
theorem Qf{r:RT}{t:List UInt8}{a L:Int}(h:r.bad=true):P6 t a L r:=⟨λ g=>by rw[h] at g;cases g⟩
theorem Rh(t:List UInt8):∀ (g:Nat) (a L:Int),0<=a->0<=L->P6 t a L (gh t g a L false)
 | 0,a,L,_,_=>Qf rfl
 | g+1,a,L,h0,hd=>by
  have ih:∀ a,0<=a->P6 t a (L+1) (gh t g a (L+1) false):=λ a ha=>Rh t g a (L+1) ha (by omega)
  have ib:∀ a,(gh t g a (L+1) true).bad=true:=λ a=>by rw[pk]
  have yy:∀ X:RT,X.L=L+1\/X.bad=true->∀ s,0<=X.a->(kx (gh t g) t s X.a X.L X.bad).bad=false->X.bad=false/\X.L=L+1/\(kx (gh t g) t s X.a X.L X.bad).L=L+1/\0<=(kx (gh t g) t s X.a X.L X.bad).a /\
    ∃ W,t.drop X.a.toNat=s++(W++t.drop (kx (gh t g) t s X.a X.L X.bad).a.toNat)/\(dW (kx (gh t g) t s X.a X.L X.bad).p->W=cw (kx (gh t g) t s X.a X.L X.bad).p):=by
   intro X hX s ha hb
   rcases hX with hX|hX
   .rw[hX] at hb ⊢
    obtain⟨q1,q2,q3,q4⟩:=UW ha ih ib hb
    exact⟨q1,rfl,q2,q3,q4⟩
   .exfalso
    unfold kx at hb
    rw[hX,show aF t X.a s true=true from by unfold aF;cases aE t X.a.toNat s<;>rfl,pk] at hb
    cases hb
  rw[KI]
  split
  .rename_i e
   obtain⟨k1,k2⟩:=wU h0 e
   rw[(mQ k1)] at k1
   exact⟨λ _=>⟨rfl,by show 0<=a+4;omega,_,k1,λ hg=>(Rv _ rfl).symm⟩⟩
  .split
   .rename_i e
    obtain⟨k1,k2⟩:=wU h0 e
    rw[(mQ k1)] at k1
    exact⟨λ _=>⟨rfl,by show 0<=a+4;omega,_,k1,λ hg=>(Rw _ rfl).symm⟩⟩
   .split
    .rename_i e
     obtain⟨k1,k2⟩:=wU h0 e
     rw[(mQ k1)] at k1
     refine⟨λ hb=>?_⟩
     obtain⟨q1,W,q2,q3⟩:=ud t (a+7) (L+1) (by omega) hb
     refine⟨by show ((aS t (a+7) (L+1) false).L:Int) - 1=L;omega,by show (0:Int)<=((aS t (a+7) (L+1) false).a:Int);omega,[97,115,115,101,114,116,32]++W,?_,λ hg=>?_⟩
     .rw[k1,a2t]
      have k3:t.drop (a+(([97,115,115,101,114,116,32]:List UInt8).length:Int)).toNat=_:=q2
      rw[k3];rfl
     .obtain⟨c1,c2⟩:=Ry _ hg rfl
      rw[c2,q3 c1.kt]
    .split
     .rename_i e
      obtain⟨r,hr⟩:=(tp _ _ _).1 e
      have ne:=a0K t a.toNat (L+1).toNat r hr
      refine⟨λ hb=>?_⟩
      obtain⟨q1,W,q2,q3⟩:=(Od t a.toNat (L+1).toNat (.inr (fH hr))).ex hb
      refine⟨rfl,by show (0:Int)<=((bP t a.toNat (L+1).toNat).a:Int);omega,W,q2,λ hg=>?_⟩
      obtain⟨n0,n9,n1,hT⟩:=Rx _ hg rfl
      have g4:=Vq _ ⟨n0,n9⟩
      rw[<-ne] at g4
      rw[q3 g4,hT,(dN _ g4).2.2.2.1 (by rw[ne])];rfl
     .split
      .rename_i e
       obtain⟨k1,k2⟩:=wU h0 e
       rw[(mQ k1)] at k1
       refine⟨λ hb=>?_⟩
       have sx:=ih (a+1) (by omega)
       dsimp only at hb ⊢
       generalize gh t g (a+1) (L+1) false=X at *
       obtain⟨w1,w2⟩:=wW hb
       have hX:X.L=L+1\/X.bad=true:=by
        cases hx:X.bad
        .exact .inl (sx.ex hx).1
        .exact .inr rfl
       have ax:0<=X.a:=by
        cases hx:X.bad
        .exact (sx.ex hx).2.1
        .exfalso
         unfold kx at w1
         rw[hx,show aF t X.a [59,32] true=true from by unfold aF;cases aE t X.a.toNat [59,32]<;>rfl,pk] at w1
         cases w1
       obtain⟨q1,q2,q3,q4,W,q5,q6⟩:=yy X hX [59,32] ax w1
       obtain⟨_,f2,f3⟩:=Lp q4 hb
       obtain⟨_,_,V,s5,s6⟩:=sx.ex q1
       refine⟨by show (kx (gh t g) t [59,32] X.a X.L X.bad).L - 1=L;omega,f3,[123]++(V++([59,32]++(W++[125]))),?_,λ hg=>?_⟩
       .have k3:t.drop (a+(([123]:List UInt8).length:Int)).toNat=_:=s5
        rw[k1,k3,q5,f2];simp[Cs]
       .obtain⟨g1,g2⟩:=Yi hg
        obtain⟨_,_,_,hT⟩:=Rz _ hg rfl
        rw[hT,s6 g1,q6 g2];simp[Cs]
      .split
       .rename_i e
        obtain⟨k1,k2⟩:=wU h0 e
        rw[(mQ k1)] at k1
        refine⟨λ hb=>?_⟩
        have sc:=ud t (a+3) (L+1) (by omega)
        dsimp only at hb ⊢
        have ca:0<=(gH t (a+3) (L+1)).a:=by show (0:Int)<=((aS t (a+3) (L+1) false).a:Int);omega
        have hC:(gH t (a+3) (L+1)).L=L+1\/(gH t (a+3) (L+1)).bad=true:=by
         cases hx:(aS t (a+3) (L+1) false).bad
         .exact .inl (sc hx).1
         .exact .inr hx
        have zc:(gH t (a+3) (L+1)).a=((aS t (a+3) (L+1) false).a:Int):=rfl
        have zb:(gH t (a+3) (L+1)).bad=(aS t (a+3) (L+1) false).bad:=rfl
        generalize gH t (a+3) (L+1)=C at *
        have sx:=yy C hC [32,116,104,101,110,32] ca
        generalize kx (gh t g) t [32,116,104,101,110,32] C.a C.L C.bad=X at *
        obtain⟨w1,w2⟩:=wW hb
        have bx:X.bad=false:=by
         cases hx:X.bad
         .rfl
         .exfalso
          unfold kx at w1
          rw[hx,show aF t X.a [32,101,108,115,101,32] true=true from by unfold aF;cases aE t X.a.toNat [32,101,108,115,101,32]<;>rfl,pk] at w1
          cases w1
        obtain⟨x1,x2,x3,x4,V,x5,x6⟩:=sx bx
        obtain⟨q1,q2,q3,q4,W,q5,q6⟩:=yy X (.inl x3) [32,101,108,115,101,32] x4 w1
        obtain⟨_,f2,f3⟩:=Lp q4 hb
        obtain⟨_,U,s5,s6⟩:=sc (zb.symm.trans x1)
        refine⟨by show (kx (gh t g) t [32,101,108,115,101,32] X.a X.L X.bad).L - 1=L;omega,f3,[105,102,32]++(U++([32,116,104,101,110,32]++(V++([32,101,108,115,101,32]++(W++[32,102,105]))))),?_,λ hg=>?_⟩
        .have k3:t.drop (a+(([105,102,32]:List UInt8).length:Int)).toNat=_:=s5
         rw[zc,a1E] at x5
         rw[k1,k3,x5,q5,f2];simp[QT]
        .obtain⟨g1,g2⟩:=Yi hg
         obtain⟨_,c1,_,_,hT⟩:=RA _ hg rfl
         rw[hT,s6 c1.kt,x6 g1,q6 g2];simp[QT]
       .split
        .rename_i e
         obtain⟨k1,k2⟩:=wU h0 e
         rw[(mQ k1)] at k1
         refine⟨λ hb=>?_⟩
         have sc:=ud t (a+6) (L+1) (by omega)
         dsimp only at hb ⊢
         have ca:0<=(gH t (a+6) (L+1)).a:=by show (0:Int)<=((aS t (a+6) (L+1) false).a:Int);omega
         have hC:(gH t (a+6) (L+1)).L=L+1\/(gH t (a+6) (L+1)).bad=true:=by
          cases hx:(aS t (a+6) (L+1) false).bad
          .exact .inl (sc hx).1
          .exact .inr hx
         have zc:(gH t (a+6) (L+1)).a=((aS t (a+6) (L+1) false).a:Int):=rfl
         have zb:(gH t (a+6) (L+1)).bad=(aS t (a+6) (L+1) false).bad:=rfl
         generalize gH t (a+6) (L+1)=C at *
         have sx:=yy C hC [32,100,111,32] ca
         generalize kx (gh t g) t [32,100,111,32] C.a C.L C.bad=X at *
         obtain⟨w1,w2⟩:=wW hb
         obtain⟨x1,x2,x3,x4,V,x5,x6⟩:=sx w1
         obtain⟨_,f2,f3⟩:=Lp x4 hb
         obtain⟨_,U,s5,s6⟩:=sc (zb.symm.trans x1)
         refine⟨by show X.L - 1=L;omega,f3,[119,104,105,108,101,32]++(U++([32,100,111,32]++(V++[32,111,100]))),?_,λ hg=>?_⟩
         .have k3:t.drop (a+(([119,104,105,108,101,32]:List UInt8).length:Int)).toNat=_:=s5
          rw[zc,a1E] at x5
          rw[k1,k3,x5,f2];simp[DF]
         .have g1:dW X.p:=(nv _ hg 0 (by simp[DF])).1
          obtain⟨_,c1,_,hT⟩:=RC _ hg (by simp[DF]) (by simp[DF]) (by simp[DF]) (by simp[DF]) (by simp[DF]) (by simp[DF])
          rw[hT,s6 c1.kt,x6 g1];simp[DF]
        .exact Qf rfl
theorem OZ(t:List UInt8)(a L:Int)(x:M)(r:List UInt8)(h0:0<=a)(d0:0<=L)(d1:L<=20)(h:dx x=true)(h40:bp x<=40)(hr:Wu r)(hd:t.drop a.toNat=br x++r) :
  aS t a L false=⟨x,a.toNat+(br x).length,L.toNat,false⟩:=by
 obtain⟨m,n,c,e1,e2,e3,e4,e5,e6⟩:=MF _ _ (a2l _) h
 exact NQ (cz t (99 - L).toNat) t a.toNat L.toNat r x c m n e1 e6 (by omega) hr hd
  (λ r' LS xc=>E4 _ n c (a2l _) e2 e3 t (99 - L).toNat a.toNat (L.toNat+1) r' (by omega) (by omega) LS xc)
theorem zS{b:UInt8}{l r:List UInt8}(h:b≠42/\gm b=false)(e:r=b::l):Wu r:=λ b' l' g=>by rw[e] at g;simp only[a1C] at g;rw[<-g.1];exact h
theorem P0{t w r:List UInt8}{a:Int}{bad:Bool}(h:t.drop a.toNat=w++r):aF t a w bad=bad:=by unfold aF;rw[cE h];rfl
theorem OK{P:Int->Int->Bool->RT}{t s r:List UInt8}{a L:Int}{bad:Bool}(h:t.drop a.toNat=s++r):kx P t s a L bad=P (a+(s.length:Int)) L bad:=by unfold kx;rw[mQ h,P0 h]
theorem CW:∀ (N:Nat) (x:ai),cd x<N->dW x->∀ (t:List UInt8) (g:Nat) (a L:Int) (r:List UInt8),L+(bX x:Int)<=20->20<=L+(g:Int)->0<=L->0<=a->Wu r->t.drop a.toNat=cw x++r ->
  gh t g a L false=⟨x,a+((cw x).length:Int),L,false⟩
 | 0,x,h,_=>by omega
 | N+1,x,hN,h=>by
  intro t g a L r hd hg h1 h0 hr ht
  have F:=pf x h
  have LL:=uI x
  obtain⟨g,rfl⟩:∃ g',g=g'+1:=⟨g - 1,by omega⟩
  have ne:∀ (b:UInt8) (l:List UInt8),t.drop a.toNat=b::l->∀ (c:UInt8) (s:List UInt8),b≠c->¬ aE t a.toNat (c::s)=true:=λ b l e c s hn=>by rw[kG e hn];decide
  rw[KI]
  rcases wh x h with e|e|e|e|e|e|e
  .rw[Rv x e] at ht ⊢
   have hx:=ie x 1 0 zX [] e (F.al (by omega)) (F.none (by omega)) (F.leaf (by omega))
   rw[a1S (cE ht),<-hx];rfl
  .rw[Rw x e] at ht ⊢
   have hx:=ie x 2 0 zX [] e (F.al (by omega)) (F.none (by omega)) (F.leaf (by omega))
   have n:=ne 102 _ ht
   rw[a1B (n 115 _ (by decide)),a1S (cE ht),<-hx];rfl
  .obtain⟨n0,n9,n1,hT⟩:=Rx x h e
   rw[hT] at ht ⊢
   obtain⟨b,k1,k2,k3,k4,k5,k6,k7⟩:=NJ x.al h0 ⟨n0,n9⟩ ht
   have hx:=ie x 3 x.al zX [] e rfl (F.none (by omega)) (F.leaf (by omega))
   have n:=ne 97 _ k4
   have g4:=Vq x.al ⟨n0,n9⟩
   have q:=Mj t a.toNat (L+1).toNat (M.mk 4 x.al []) g4 (.inr rfl) r (λ b l hb=>(hr b l hb).2) (by rw[(dN _ g4).2.2.2.1 rfl];exact ht)
   rw[a1B (n 115 _ (by decide)),a1B (n 102 _ (by decide)),a1B (by rw[Rs k4 k3];decide),a1S (cE (s:=[97]) k4),q,(dN _ g4).2.2.2.1 rfl]
   simp only
   rw[<-hx]
   simp only[RT.mk.injEq,a1Z,a1H,a1T,a1M,a2b];omega
  .obtain⟨hc,hT⟩:=Ry x h e
   rw[hT] at ht ⊢
   rw[a2t] at ht
   have hx:=ie x 4 0 x.cond [] e (F.al (by omega)) rfl (F.leaf (by omega))
   have n:=ne 97 _ ht
   have p1:t.drop (a+7).toNat=br x.cond++r:=eY h0 ht _ (by simp)
   have q1:=OZ t (a+7) (L+1) x.cond r (by omega) (by omega) (by omega) hc.kt (F.Bw (by omega)) hr p1
   rw[a1B (n 115 _ (by decide)),a1B (n 102 _ (by decide)),a1S (cE ht),q1]
   simp only
   rw[<-hx]
   simp only[RT.mk.injEq,a1Z,a1H,a1T,a1M,a2b];omega
  .obtain⟨hl,k0,k1,hT⟩:=Rz x h e
   rw[hT] at ht ⊢
   rw[Pv _ x hl] at LL
   have hx:=ie x 5 0 zX _ e (F.al (by omega)) (F.none (by omega)) (vz x hl)
   have ni:t.drop a.toNat=[123]++(cw (x.J.getD 0 zP)++([59,32]++(cw (x.J.getD 1 zP)++([125]++r)))):=by rw[ht];simp
   have n:=ne 123 _ ni
   have p1:t.drop (a+1).toNat=_:=eY h0 ni _ (by simp)
   have q1:=CW N _ (by have:=k0.less;omega) k0.kt t g (a+1) (L+1) _ (by omega) (by omega) (by omega) (by omega) (zS (by decide) rfl) p1
   have p2:t.drop (a+1+((cw (x.J.getD 0 zP)).length:Int)).toNat=_:=eY (by omega) p1 _ rfl
   have p3:=eY (by omega) p2 _ rfl
   have q2:=CW N _ (by have:=k1.less;omega) k1.kt t g _ (L+1) _ (by omega) (by omega) (by omega) (by omega) (zS (by decide) rfl) p3
   have p4:=eY (by omega) p3 _ rfl
   rw[a1B (n 115 _ (by decide)),a1B (n 102 _ (by decide)),a1B (n 97 _ (by decide)),a1B (n 97 _ (by decide)),a1S (cE ni)]
   dsimp only
   rw[q1]
   dsimp only
   rw[OK p2,q2]
   unfold Cs
   dsimp only
   rw[mQ p4,P0 p4,<-hx]
   simp only[RT.mk.injEq,a1Z,a1H,a1T,a1M,a2b];omega
  .obtain⟨hl,hc,k0,k1,hT⟩:=RA x h e
   rw[hT] at ht ⊢
   rw[Pv _ x hl] at LL
   have hx:=ie x 6 0 x.cond _ e (F.al (by omega)) rfl (vz x hl)
   have ni:t.drop a.toNat=[105,102,32]++(br x.cond++([32,116,104,101,110,32]++(cw (x.J.getD 0 zP)++([32,101,108,115,101,32]++(cw (x.J.getD 1 zP)++([32,102,105]++r)))))):=by rw[ht];simp
   have n:=ne 105 _ ni
   have p0:t.drop (a+3).toNat=_:=eY h0 ni _ (by simp)
   have q0:=OZ t (a+3) (L+1) x.cond _ (by omega) (by omega) (by omega) hc.kt (F.Bw (by omega)) (zS (by decide) rfl) p0
   have ea:(((a+3).toNat+(br x.cond).length:Nat):Int)=a+3+((br x.cond).length:Int):=by omega
   have eb:(((L+1).toNat:Nat):Int)=L+1:=by omega
   have p1:t.drop (a+3+((br x.cond).length:Int)).toNat=_:=eY (by omega) p0 _ rfl
   have p2:=eY (by omega) p1 _ rfl
   have q1:=CW N _ (by have:=k0.less;omega) k0.kt t g _ (L+1) _ (by omega) (by omega) (by omega) (by omega) (zS (by decide) rfl) p2
   have p3:=eY (by omega) p2 _ rfl
   have p4:=eY (by omega) p3 _ rfl
   have q2:=CW N _ (by have:=k1.less;omega) k1.kt t g _ (L+1) _ (by omega) (by omega) (by omega) (by omega) (zS (by decide) rfl) p4
   have p5:=eY (by omega) p4 _ rfl
   rw[a1B (n 115 _ (by decide)),a1B (n 102 _ (by decide)),a1B (n 97 _ (by decide)),a1B (n 97 _ (by decide)),a1B (n 123 _ (by decide)),a1S (cE ni)]
   unfold gH
   rw[q0]
   dsimp only
   rw[ea,eb,OK p1,q1]
   dsimp only
   rw[OK p3,q2]
   unfold QT
   dsimp only
   rw[mQ p5,P0 p5,<-hx]
   simp only[RT.mk.injEq,a1Z,a1H,a1T,a1M,a2b];omega
  .obtain⟨hl,hc,k0,hT⟩:=RC x h (by omega) (by omega) (by omega) (by omega) (by omega) (by omega)
   rw[hT] at ht ⊢
   rw[Wi _ x hl] at LL
   have hx:=ie x 7 0 x.cond _ e (F.al (by omega)) rfl (IK x hl)
   have ni:t.drop a.toNat=[119,104,105,108,101,32]++(br x.cond++([32,100,111,32]++(cw (x.J.getD 0 zP)++([32,111,100]++r)))):=by rw[ht];simp
   have n:=ne 119 _ ni
   have p0:t.drop (a+6).toNat=_:=eY h0 ni _ (by simp)
   have q0:=OZ t (a+6) (L+1) x.cond _ (by omega) (by omega) (by omega) hc.kt (F.Bw (by omega)) (zS (by decide) rfl) p0
   have ea:(((a+6).toNat+(br x.cond).length:Nat):Int)=a+6+((br x.cond).length:Int):=by omega
   have eb:(((L+1).toNat:Nat):Int)=L+1:=by omega
   have p1:t.drop (a+6+((br x.cond).length:Int)).toNat=_:=eY (by omega) p0 _ rfl
   have p2:=eY (by omega) p1 _ rfl
   have q1:=CW N _ (by have:=k0.less;omega) k0.kt t g _ (L+1) _ (by omega) (by omega) (by omega) (by omega) (zS (by decide) rfl) p2
   have p3:=eY (by omega) p2 _ rfl
   rw[a1B (n 115 _ (by decide)),a1B (n 102 _ (by decide)),a1B (n 97 _ (by decide)),a1B (n 97 _ (by decide)),a1B (n 123 _ (by decide)),a1B (n 105 _ (by decide)),a1S (cE ni)]
   unfold gH
   rw[q0]
   dsimp only
   rw[ea,eb,OK p1,q1]
   unfold DF
   dsimp only
   rw[mQ p3,P0 p3,<-hx]
   simp only[RT.mk.injEq,a1Z,a1H,a1T,a1M,a2b];omega
def No(t:List UInt8):RG:=yR t 20 0
def Ae(t:List UInt8):RT:=gh t 60 0 0 false
def lM(gg:bb)(t:List UInt8):Bool:=(No t).ok&&decide ((No t).a=(t.length:Int))&&yr gg (No t).p&&decide (cw (No t).p=t)
def Fq(gg:bb)(t:List UInt8):ai:=bif lM gg t then (No t).p else zQ
theorem Ip(gg:bb)(x:ai)(hg:cf gg=true)(h:yr gg x=true):dW x/\bX x<=20/\bq x<=60:=by
 simp only[yr,nh,a1z,a1F] at h
 exact⟨⟨gg,hg,h.1.1⟩,by omega,by omega⟩
theorem WD(gg:bb)(t:List UInt8)(hg:cf gg=true):(!(Ae t).bad&&decide ((Ae t).a=(t.length:Int))&&yr gg (Ae t).p)=lM gg t/\(lM gg t=true->(Ae t).p=Fq gg t):=by
 have key:lM gg t=true->Ae t=⟨(No t).p,(t.length:Int),0,false⟩:=by
  intro h
  simp only[lM,a1z,a1F] at h
  obtain⟨⟨⟨h1,h2⟩,h3⟩,h4⟩:=h
  obtain⟨g1,g2,g3⟩:=Ip gg _ hg h3
  have:=CW _ (No t).p (a2l _) g1 t 60 0 0 [] (by omega) (by omega) (by omega) (by omega) (λ b l e=>by cases e) (by rw[h4];simp)
  rw[h4] at this
  unfold Ae
  rw[this];simp
 have a0J:(!(Ae t).bad&&decide ((Ae t).a=(t.length:Int))&&yr gg (Ae t).p)=true->lM gg t=true:=by
  intro h
  simp only[a1z,a1F,a2k] at h
  obtain⟨⟨h1,h2⟩,h3⟩:=h
  obtain⟨g1,g2,g3⟩:=Ip gg _ hg h3
  obtain⟨_,_,W,q1,q2⟩:=(show P6 t 0 0 (Ae t) from Rh t 60 0 0 (by omega) (by omega)).ex h1
  have e1:cw (Ae t).p=t:=by
   rw[<-q2 g1]
   have:t.drop (Ae t).a.toNat=[]:=by rw[h2];simp
   have Us:t=W++t.drop (Ae t).a.toNat:=by simpa using q1
   rw[this] at Us
   simpa using Us.symm
  have e2:=CV _ (Ae t).p (a2l _) g1 t 20 0 [] g2 (by omega) (λ b l e=>by cases e) (by rw[e1];simp)
  have e3:No t=⟨(Ae t).p,true,(t.length:Int)⟩:=by unfold No;rw[e2,e1];simp
  unfold lM
  rw[e3]
  simp only[h3,e1,a1Y,a2V]
 refine⟨?_,λ h=>by rw[key h];unfold Fq;rw[h];rfl⟩
 cases h:lM gg t with
 | true =>
  rw[key h]
  simp only[lM,a1z] at h
  simp[h.1.2]
 | false =>
  cases h':(!(Ae t).bad&&decide ((Ae t).a=(t.length:Int))&&yr gg (Ae t).p) with
  | false=>rfl
  | true=>rw[a0J h'] at h;cases h
end
end Go.Proofs.YtaaamahdcpcofaaDoor

/- VmTo, VmEq, VmExpr, VmExpr2, VmShaped, VmTruth, VmValid, VmPfe, VmBld, VmBld2, VmShelf, VmShelf2, VmBw, VmSplit, VmWord, VmPf1, VmSame2, VmShelf3, VmCut, VmWe, VmText, VmWord2, VmRExpr. -/
import Derived.Test.YtmjfpcajohhbeaaGreatDoorVmSz
import Derived.Shelf.Strings.Builder1
import Derived.Shelf.Strconv.Itoa0
import Derived.Shelf.Strconv.Itoa1
import Derived.Shelf.LaysM
import Derived.Shelf.Strconv.Itoa2
import Derived.Shelf.Strconv.Itoa3
import Derived.Shelf.Strings.Search1
import Derived.Shelf.Strings.Search2
import Derived.Shelf.Strings.Cut
import Derived.Shelf.Strings.Shaped
import Derived.Shelf.Strings.Prefix
import Derived.Test.YtmjfpcajohhbeaaGreatDoorProg
import Derived.WalkKit
import Derived.Lib.Builder
import Derived.Lib.AppendStr
import Derived.Lib.UnsafeStr
import Derived.Lib.Walk
import Derived.Lib.Strings
import Derived.Lib.Slices
import Derived.Lib.MakeNoZero
import Derived.Laws.Externs
import Derived.Laws.IdiomCopy
import Derived.BigCall
import Derived.OwnWalk
set_option linter.all false
set_option maxRecDepth 4000
set_option maxHeartbeats 4000000
namespace Go.Proofs.YtmjfpcajohhbeaaGreatDoor
def a8X:=@Bool.not_eq_false'
def b2n:=@decide_not
def b2w:=@Int.lt_or_le
def b2a:=@Go.Oper.upon_value
def b1S:=@Go.RowKit.Below.refl
def b1i:=@Go.Lib.cell_of_heap
def b0Z:=@Bool.and_eq_false_iff
def a8B:=@Bool.true_eq_false
def b2z:=@Go.Lib.size_eq
def b2d:=@Nat.le_succ
def b1r:=@UInt8.toNat_ofNat'
def b0O:=@Bool.and_self
def b1s:=@cond_true
noncomputable section
def qv:aJ:=⟨A5,[.v (.st .sig)],λ (x:aO)=>⟨(none,[⟨(.st .sig),x⟩])⟩⟩
def Jh(x:aO):Nat->aH:=λ _ => .none
theorem T6(x:aO):ck (aL [] [] [] [1]) (au od) (Jh x) 0 (bg (aL [] [] [] [1]) od λ r=>bp r [⟨(.st .sig),x⟩]) (aD od [.val ⟨(.st .sig),x⟩]) =
 ((O x.aq ->
 (O x.bd ->
 x=x))):=by kernel_rfl
theorem To(hE:aG []):aJ.Good qv:=by
 refine⟨aA FF rfl (by decide),?_⟩
 show ∀ (x:aO),True->bh prog A5 [.val ⟨(.st .sig),x⟩] (·=[⟨(.st .sig),x⟩])
 intro x _
 refine aM (wr:=[]) (cl:=[]) (ro:=[1]) hE FF NZ (Jh x) ?_
 rewrite [T6 x]
 refine λ a0=>λ a1=>rfl
 all_goals try and_intros
 all_goals first|rfl|trivial|omega|(simp only[a8p,a8q,aw,O,cr,cW,cH,br] at *;omega)|(simp[aw,O] at *;omega)|grind
theorem Og:aJ.Good qv:=To trivial
def nZ(n:Nat):aJ:=⟨tg,[.v (.st .expr)],λ (x:J)=>⟨(some (cz x<n/\ar x<=1048576),[⟨(.st .expr),x⟩])⟩⟩
def sW:aJ:=⟨tg,[.v (.st .expr)],λ (x:J)=>⟨(some (ar x<=1048576),[⟨(.st .expr),x⟩])⟩⟩
def mw(n:Nat):aJ:=⟨rb,[.v (.slice (.st .expr))],λ (xs:List J)=>⟨(some (cz xs<n/\xs.length+bF ar xs<=1048576),[⟨(.slice (.st .expr)),xs⟩])⟩⟩
def qT:aJ:=⟨rb,[.v (.slice (.st .expr))],λ (xs:List J)=>⟨(some (xs.length+bF ar xs<=1048576),[⟨(.slice (.st .expr)),xs⟩])⟩⟩
def Gy(x:J):Nat->aH:=λ _ => .none
theorem Rb(n:Nat)(x:J):ck (aL [mw n] [] [] [1]) (au lR) (Gy x) 0 (bg (aL [mw n] [] [] [1]) lR λ r=>bp r [⟨(.st .expr),x⟩]) (aD lR [.val ⟨(.st .expr),x⟩]) =
 ((O x.ak ->
 (O x.aI ->
 (x.M.length<=140737488355328 ->
 ((cz x.M<n/\x.M.length+bF ar x.M<=1048576)/\(x.M.length<=140737488355328 ->
 (ag x)=x)))))):=by kernel_rfl
theorem QX(n:Nat)(hE:aG [mw n]):aJ.Good (nZ (n+1)):=by
 refine⟨aA qM rfl (by decide),?_⟩
 show ∀ (x:J),(cz x<n+1/\ar x<=1048576)->bh prog tg [.val ⟨(.st .expr),x⟩] (·=[⟨(.st .expr),x⟩])
 intro x hp
 refine aM (wr:=[]) (cl:=[]) (ro:=[1]) hE qM LM (Gy x) ?_
 rewrite [Rb n x]
 rw[sr] at hp
 have f0k:=dV x
 refine λ _ _ _=>⟨?_,λ _=>?_⟩
 all_goals try and_intros
 all_goals try (first|with_reducible rfl|with_reducible assumption)
 all_goals try simp only[J.eta,ae.eta,aj.eta,aP,bM,cn] at *
 all_goals first|rfl|trivial|omega|(simp only[a8p,a8q,aw,O,cr,cW,cH,br] at *;omega)|(simp[aw,O] at *;omega)|grind
def Ev(xs:List J):Nat->aH:=(λ zb=>if Nat.beq zb 0 then .mk (Nat) (λ k=>k<=xs.length) (λ k=>xs.length - k) [] [1,5,6,7] (λ k=>[(4, .aW ⟨(.int .i64),((k:Int):Int)⟩),(3, .row 7)]) [0,2,3,4,8,9,10,11,12,13,14,15,16,17,18,19,20,21,22] (λ k=>[(7, .row VM (.st .expr) (fill xs k zE:List J))]) [] [] (λ k=>λ _ => .none) else .none)
theorem Pn(n:Nat)(xs:List J):ck (aL [nZ n]) (au kf) (Ev xs) 0 (bg (aL [nZ n]) kf λ r=>bp r [⟨(.slice (.st .expr)),xs⟩]) (aD kf [.val ⟨(.slice (.st .expr)),xs⟩]) =
 ((O ((xs.length:Int)) ->
 (cH ((xs.length:Int)) ((xs.length:Int)) 40/\((∃ k1:Nat,(k1<=xs.length/\((xs=xs/\(True/\(True/\((0:Int)=(k1:Int)/\True))))/\((List.replicate (Int.toNat ((xs.length:Int))) zE)=(fill xs k1 zE)/\True))))/\(∀ k1:Nat,(k1<=xs.length ->
 (O ((xs.length:Int)) ->
 (((decide ((k1:Int)<((xs.length:Int))))=true ->
 (aw (k1:Int) xs.length/\((cz (xs.getD k1 zE)<n/\ar (xs.getD k1 zE)<=1048576)/\(aw (k1:Int) (fill xs k1 zE).length/\(O ((k1:Int)+(1:Int))/\(∃ k2:Nat,(k2<=xs.length/\(xs.length - k2<xs.length - k1/\((xs=xs/\(True/\(True/\(((k1:Int)+(1:Int))=(k2:Int)/\True))))/\(((fill xs k1 zE).set k1 (xs.getD k1 zE))=(fill xs k2 zE)/\True))))))))))/\((decide ((k1:Int)<((xs.length:Int))))=false ->
 (fill xs k1 zE)=xs))))))))):=by kernel_rfl
theorem ON(n:Nat)(hE:aG [nZ n]):aJ.Good (mw (n+1)):=by
 refine⟨aA pA rfl (by decide),?_⟩
 show ∀ (xs:List J),(cz xs<n+1/\xs.length+bF ar xs<=1048576)->bh prog rb [.val ⟨(.slice (.st .expr)),xs⟩] (·=[⟨(.slice (.st .expr)),xs⟩])
 intro xs hp
 refine aM (wr:=[]) (cl:=[]) (ro:=[]) hE pA JQ (Ev xs) ?_
 rewrite [Pn n xs]
 refine λ _=>⟨?_,⟨0,?_,⟨rfl,trivial,trivial,?_,trivial⟩,?_,trivial⟩,λ k1 _=>have RZ:=rS xs zE k1;have R0:=xb xs zE k1;have R1:=rT xs zE zE k1;have ZW:=sq ar zE xs k1;have a7W:=cq zE xs k1;λ _=>⟨λ _=>⟨?_,?_,?_,?_,k1+1,?_,?_,⟨rfl,trivial,trivial,?_,trivial⟩,?_,trivial⟩,λ _=>?_⟩⟩
 all_goals try and_intros
 all_goals first|rfl|trivial|omega|(simp only[a8p,a8q,aw,O,cr,cW,cH,br] at *;omega)|(simp[aw,O] at *;omega)|grind|exact Di xs _|(simp only[a8p,a8q] at *;first|exact rT _ _ _ _ (by omega)|exact rS _ _ _ (by omega)|(simp only[cH];omega))
theorem CY :∀ n,aG [nZ n,mw n]
 | 0=>⟨⟨aA qM rfl (by decide),λ _ h=>absurd h.1 (a9p _)⟩,⟨aA pA rfl (by decide),λ _ h=>absurd h.1 (a9p _)⟩,trivial⟩
 | n+1=>by
  have ih:=CY  n
  exact⟨QX n ⟨ih.2.1,trivial⟩,ON n ⟨ih.1,trivial⟩,trivial⟩
theorem Mj :aJ.Good sW :=
 ⟨aA qM rfl (by decide),λ x hp=>(CY  (cz x+1)).1.2 x (⟨a9h _,hp⟩)⟩
theorem Kn :aJ.Good qT :=
 ⟨aA pA rfl (by decide),λ xs hp=>(CY  (cz xs+1)).2.1.2 xs (⟨a9h _,hp⟩)⟩
def mh:aJ:=⟨uh,[.v (.slice (.int .i64))],λ (xs:List Int)=>⟨(some (xs.length<=1048576),[⟨(.slice (.int .i64)),xs⟩])⟩⟩
def Cy(xs:List Int):Nat->aH:=(λ zb=>if Nat.beq zb 0 then .mk (Nat) (λ k=>k<=xs.length) (λ k=>xs.length - k) [] [1,5,6,7] (λ k=>[(4, .aW ⟨(.int .i64),((k:Int):Int)⟩),(3, .row 7)]) [0,2,3,4,8,9,10,11,12,13,14,15,16,17,18,19,20,21] (λ k=>[(7, .row a1F (.int .i64) (fill xs k (0:Int):List Int))]) [] [] (λ k=>λ _ => .none) else .none)
theorem NG(xs:List Int):ck (aL []) (au jk) (Cy xs) 0 (bg (aL []) jk λ r=>bp r [⟨(.slice (.int .i64)),xs⟩]) (aD jk [.val ⟨(.slice (.int .i64)),xs⟩]) =
 ((O ((xs.length:Int)) ->
 (cH ((xs.length:Int)) ((xs.length:Int)) 8/\((∃ k1:Nat,(k1<=xs.length/\((xs=xs/\(True/\(True/\((0:Int)=(k1:Int)/\True))))/\((List.replicate (Int.toNat ((xs.length:Int))) (0:Int))=(fill xs k1 (0:Int))/\True))))/\(∀ k1:Nat,(k1<=xs.length ->
 (O ((xs.length:Int)) ->
 (((decide ((k1:Int)<((xs.length:Int))))=true ->
 (aw (k1:Int) xs.length/\(O (xs.getD k1 (0:Int)) ->
 (aw (k1:Int) (fill xs k1 (0:Int)).length/\(O ((k1:Int)+(1:Int))/\(∃ k2:Nat,(k2<=xs.length/\(xs.length - k2<xs.length - k1/\((xs=xs/\(True/\(True/\(((k1:Int)+(1:Int))=(k2:Int)/\True))))/\(((fill xs k1 (0:Int)).set k1 (xs.getD k1 (0:Int)))=(fill xs k2 (0:Int))/\True))))))))))/\((decide ((k1:Int)<((xs.length:Int))))=false ->
 (fill xs k1 (0:Int))=xs))))))))):=by kernel_rfl
theorem MY(hE:aG []):aJ.Good mh:=by
 refine⟨aA zF rfl (by decide),?_⟩
 show ∀ (xs:List Int),(xs.length<=1048576)->bh prog uh [.val ⟨(.slice (.int .i64)),xs⟩] (·=[⟨(.slice (.int .i64)),xs⟩])
 intro xs hp
 refine aM (wr:=[]) (cl:=[]) (ro:=[]) hE zF H3 (Cy xs) ?_
 rewrite [NG xs]
 refine λ _=>⟨?_,⟨0,?_,⟨rfl,trivial,trivial,?_,trivial⟩,?_,trivial⟩,λ k1 _=>have RZ:=rS xs (0:Int) k1;have R0:=xb xs (0:Int) k1;have R1:=rT xs (0:Int) (0:Int) k1;λ _=>⟨λ _=>⟨?_,λ _=>⟨?_,?_,k1+1,?_,?_,⟨rfl,trivial,trivial,?_,trivial⟩,?_,trivial⟩⟩,λ _=>?_⟩⟩
 all_goals try and_intros
 all_goals first|rfl|trivial|omega|(simp only[a8p,a8q,aw,O,cr,cW,cH,br] at *;omega)|(simp[aw,O] at *;omega)|grind|exact Di xs _|(simp only[a8p,a8q] at *;first|exact rT _ _ _ _ (by omega)|exact rS _ _ _ (by omega)|(simp only[cH];omega))
theorem Im:aJ.Good mh:=MY trivial
def iG:aJ:=⟨ql,[.v (.st .proofStep)],λ (x:ai)=>⟨(some (aQ x<=1048576),[⟨(.st .proofStep),x⟩])⟩⟩
def wO(x:ai):Nat->aH:=λ _ => .none
theorem Hp(x:ai):ck (aL [mh,qT] [] [] [1]) (au fS) (wO x) 0 (bg (aL [mh,qT] [] [] [1]) fS λ r=>bp r [⟨(.st .proofStep),x⟩]) (aD fS [.val ⟨(.st .proofStep),x⟩]) =
 ((O x.use ->
 (x.path.length<=140737488355328 ->
 (x.path.length<=1048576/\(x.path.length<=140737488355328 ->
 (x.aq.length<=140737488355328 ->
 (x.aq.length+bF ar x.aq<=1048576/\(x.aq.length<=140737488355328 ->
 (x.bm.length<=140737488355328 ->
 (x.bm.length+bF ar x.bm<=1048576/\(x.bm.length<=140737488355328 ->
 x=x))))))))))):=by kernel_rfl
theorem GX(hE:aG [mh,qT]):aJ.Good iG:=by
 refine⟨aA uX rfl (by decide),?_⟩
 show ∀ (x:ai),(aQ x<=1048576)->bh prog ql [.val ⟨(.st .proofStep),x⟩] (·=[⟨(.st .proofStep),x⟩])
 intro x hp
 refine aM (wr:=[]) (cl:=[]) (ro:=[1]) hE uX C9 (wO x) ?_
 rewrite [Hp x]
 rw[CO] at hp
 refine λ _ _=>⟨?_,λ _ _=>⟨?_,λ _ _=>⟨?_,λ _=>rfl⟩⟩⟩
 all_goals try and_intros
 all_goals first|rfl|trivial|omega|(simp only[a8p,a8q,aw,O,cr,cW,cH,br] at *;omega)|(simp[aw,O] at *;omega)|grind
theorem Dn:aJ.Good iG:=GX ⟨Im,Kn,trivial⟩
def gS:aJ:=⟨pj,[.v (.slice (.st .proofStep))],λ (xs:List ai)=>⟨(some (xs.length+bF aQ xs<=1048576),[⟨(.slice (.st .proofStep)),xs⟩])⟩⟩
def vp(xs:List ai):Nat->aH:=(λ zb=>if Nat.beq zb 0 then .mk (Nat) (λ k=>k<=xs.length) (λ k=>xs.length - k) [] [1,5,6,7] (λ k=>[(4, .aW ⟨(.int .i64),((k:Int):Int)⟩),(3, .row 7)]) [0,2,3,4,8,9,10,11,12,13,14,15,16,17,18,19,20,21,22] (λ k=>[(7, .row Lp (.st .proofStep) (fill xs k (ai.mk (0:Int) false [] [] []):List ai))]) [] [] (λ k=>λ _ => .none) else .none)
theorem Ft(xs:List ai):ck (aL [iG]) (au fh) (vp xs) 0 (bg (aL [iG]) fh λ r=>bp r [⟨(.slice (.st .proofStep)),xs⟩]) (aD fh [.val ⟨(.slice (.st .proofStep)),xs⟩]) =
 ((O ((xs.length:Int)) ->
 (cH ((xs.length:Int)) ((xs.length:Int)) 88/\((∃ k1:Nat,(k1<=xs.length/\((xs=xs/\(True/\(True/\((0:Int)=(k1:Int)/\True))))/\((List.replicate (Int.toNat ((xs.length:Int))) (ai.mk (0:Int) false [] [] []))=(fill xs k1 (ai.mk (0:Int) false [] [] []))/\True))))/\(∀ k1:Nat,(k1<=xs.length ->
 (O ((xs.length:Int)) ->
 (((decide ((k1:Int)<((xs.length:Int))))=true ->
 (aw (k1:Int) xs.length/\(aQ (xs.getD k1 (ai.mk (0:Int) false [] [] []))<=1048576/\(aw (k1:Int) (fill xs k1 (ai.mk (0:Int) false [] [] [])).length/\(O ((k1:Int)+(1:Int))/\(∃ k2:Nat,(k2<=xs.length/\(xs.length - k2<xs.length - k1/\((xs=xs/\(True/\(True/\(((k1:Int)+(1:Int))=(k2:Int)/\True))))/\(((fill xs k1 (ai.mk (0:Int) false [] [] [])).set k1 (xs.getD k1 (ai.mk (0:Int) false [] [] [])))=(fill xs k2 (ai.mk (0:Int) false [] [] []))/\True))))))))))/\((decide ((k1:Int)<((xs.length:Int))))=false ->
 (fill xs k1 (ai.mk (0:Int) false [] [] []))=xs))))))))):=by kernel_rfl
theorem Fi(hE:aG [iG]):aJ.Good gS:=by
 refine⟨aA tA rfl (by decide),?_⟩
 show ∀ (xs:List ai),(xs.length+bF aQ xs<=1048576)->bh prog pj [.val ⟨(.slice (.st .proofStep)),xs⟩] (·=[⟨(.slice (.st .proofStep)),xs⟩])
 intro xs hp
 refine aM (wr:=[]) (cl:=[]) (ro:=[]) hE tA BV (vp xs) ?_
 rewrite [Ft xs]
 refine λ _=>⟨?_,⟨0,?_,⟨rfl,trivial,trivial,?_,trivial⟩,?_,trivial⟩,λ k1 _=>have RZ:=rS xs (ai.mk (0:Int) false [] [] []) k1;have R0:=xb xs (ai.mk (0:Int) false [] [] []) k1;have R1:=rT xs (ai.mk (0:Int) false [] [] []) (ai.mk (0:Int) false [] [] []) k1;have ZW:=sq aQ (ai.mk (0:Int) false [] [] []) xs k1;λ _=>⟨λ _=>⟨?_,?_,?_,?_,k1+1,?_,?_,⟨rfl,trivial,trivial,?_,trivial⟩,?_,trivial⟩,λ _=>?_⟩⟩
 all_goals try and_intros
 all_goals first|rfl|trivial|omega|(simp only[a8p,a8q,aw,O,cr,cW,cH,br] at *;omega)|(simp[aw,O] at *;omega)|grind|exact Di xs _|(simp only[a8p,a8q] at *;first|exact rT _ _ _ _ (by omega)|exact rS _ _ _ (by omega)|(simp only[cH];omega))
theorem B9:aJ.Good gS:=Fi ⟨Dn,trivial⟩
def nN:aJ:=⟨wb,[.v (.st .claim)],λ (x:ae)=>⟨(some (bD x<=1048576),[⟨(.st .claim),x⟩])⟩⟩
def Eu(x:ae):Nat->aH:=λ _ => .none
theorem Pm(x:ae):ck (aL [sW,gS] [] [] [1]) (au ke) (Eu x) 0 (bg (aL [sW,gS] [] [] [1]) ke λ r=>bp r [⟨(.st .claim),x⟩]) (aD ke [.val ⟨(.st .claim),x⟩]) =
 ((ar x.left<=1048576/\(ar x.right<=1048576/\(O x.bO ->
 (O x.ref ->
 (x.steps.length<=140737488355328 ->
 (x.steps.length+bF aQ x.steps<=1048576/\(x.steps.length<=140737488355328 ->
 (FZ x)=x)))))))):=by kernel_rfl
theorem OM(hE:aG [sW,gS]):aJ.Good nN:=by
 refine⟨aA BG rfl (by decide),?_⟩
 show ∀ (x:ae),(bD x<=1048576)->bh prog wb [.val ⟨(.st .claim),x⟩] (·=[⟨(.st .claim),x⟩])
 intro x hp
 refine aM (wr:=[]) (cl:=[]) (ro:=[1]) hE BG JP (Eu x) ?_
 rewrite [Pm x]
 rw[Nl] at hp
 refine⟨?_,?_,λ _ _ _=>⟨?_,λ _=>?_⟩⟩
 all_goals try and_intros
 all_goals try (first|with_reducible rfl|with_reducible assumption)
 all_goals try simp only[J.eta,ae.eta,aj.eta,aP,bM,cn] at *
 all_goals first|rfl|trivial|omega|(simp only[a8p,a8q,aw,O,cr,cW,cH,br] at *;omega)|(simp[aw,O] at *;omega)|grind
theorem Km:aJ.Good nN:=OM ⟨Mj,B9,trivial⟩
def mg:aJ:=⟨ug,[.v (.slice (.st .claim))],λ (xs:List ae)=>⟨(some (xs.length+bF bD xs<=1048576),[⟨(.slice (.st .claim)),xs⟩])⟩⟩
def Cx(xs:List ae):Nat->aH:=(λ zb=>if Nat.beq zb 0 then .mk (Nat) (λ k=>k<=xs.length) (λ k=>xs.length - k) [] [1,5,6,7] (λ k=>[(4, .aW ⟨(.int .i64),((k:Int):Int)⟩),(3, .row 7)]) [0,2,3,4,8,9,10,11,12,13,14,15,16,17,18,19,20,21,22] (λ k=>[(7, .row Ue (.st .claim) (fill xs k (ae.mk zE zE (0:Int) (0:Int) []):List ae))]) [] [] (λ k=>λ _ => .none) else .none)
theorem NF(xs:List ae):ck (aL [nN]) (au jj) (Cx xs) 0 (bg (aL [nN]) jj λ r=>bp r [⟨(.slice (.st .claim)),xs⟩]) (aD jj [.val ⟨(.slice (.st .claim)),xs⟩]) =
 ((O ((xs.length:Int)) ->
 (cH ((xs.length:Int)) ((xs.length:Int)) 120/\((∃ k1:Nat,(k1<=xs.length/\((xs=xs/\(True/\(True/\((0:Int)=(k1:Int)/\True))))/\((List.replicate (Int.toNat ((xs.length:Int))) (ae.mk zE zE (0:Int) (0:Int) []))=(fill xs k1 (ae.mk zE zE (0:Int) (0:Int) []))/\True))))/\(∀ k1:Nat,(k1<=xs.length ->
 (O ((xs.length:Int)) ->
 (((decide ((k1:Int)<((xs.length:Int))))=true ->
 (aw (k1:Int) xs.length/\(bD (xs.getD k1 (ae.mk zE zE (0:Int) (0:Int) []))<=1048576/\(aw (k1:Int) (fill xs k1 (ae.mk zE zE (0:Int) (0:Int) [])).length/\(O ((k1:Int)+(1:Int))/\(∃ k2:Nat,(k2<=xs.length/\(xs.length - k2<xs.length - k1/\((xs=xs/\(True/\(True/\(((k1:Int)+(1:Int))=(k2:Int)/\True))))/\(((fill xs k1 (ae.mk zE zE (0:Int) (0:Int) [])).set k1 (xs.getD k1 (ae.mk zE zE (0:Int) (0:Int) [])))=(fill xs k2 (ae.mk zE zE (0:Int) (0:Int) []))/\True))))))))))/\((decide ((k1:Int)<((xs.length:Int))))=false ->
 (fill xs k1 (ae.mk zE zE (0:Int) (0:Int) []))=xs))))))))):=by kernel_rfl
theorem MX(hE:aG [nN]):aJ.Good mg:=by
 refine⟨aA zD rfl (by decide),?_⟩
 show ∀ (xs:List ae),(xs.length+bF bD xs<=1048576)->bh prog ug [.val ⟨(.slice (.st .claim)),xs⟩] (·=[⟨(.slice (.st .claim)),xs⟩])
 intro xs hp
 refine aM (wr:=[]) (cl:=[]) (ro:=[]) hE zD H2 (Cx xs) ?_
 rewrite [NF xs]
 refine λ _=>⟨?_,⟨0,?_,⟨rfl,trivial,trivial,?_,trivial⟩,?_,trivial⟩,λ k1 _=>have RZ:=rS xs (ae.mk zE zE (0:Int) (0:Int) []) k1;have R0:=xb xs (ae.mk zE zE (0:Int) (0:Int) []) k1;have R1:=rT xs (ae.mk zE zE (0:Int) (0:Int) []) (ae.mk zE zE (0:Int) (0:Int) []) k1;have ZW:=sq bD (ae.mk zE zE (0:Int) (0:Int) []) xs k1;λ _=>⟨λ _=>⟨?_,?_,?_,?_,k1+1,?_,?_,⟨rfl,trivial,trivial,?_,trivial⟩,?_,trivial⟩,λ _=>?_⟩⟩
 all_goals try and_intros
 all_goals first|rfl|trivial|omega|(simp only[a8p,a8q,aw,O,cr,cW,cH,br] at *;omega)|(simp[aw,O] at *;omega)|grind|exact Di xs _|(simp only[a8p,a8q] at *;first|exact rT _ _ _ _ (by omega)|exact rS _ _ _ (by omega)|(simp only[cH];omega))
theorem Il:aJ.Good mg:=MX ⟨Km,trivial⟩
def nO:aJ:=⟨we,[.v (.st .proof)],λ (x:av)=>⟨(some (fV x<=1048576),[⟨(.st .proof),x⟩])⟩⟩
def Ew(x:av):Nat->aH:=λ _ => .none
theorem Pp(x:av):ck (aL [qv,mg] [] [] [1]) (au kg) (Ew x) 0 (bg (aL [qv,mg] [] [] [1]) kg λ r=>bp r [⟨(.st .proof),x⟩]) (aD kg [.val ⟨(.st .proof),x⟩]) =
 ((x.U.length<=140737488355328 ->
 (x.U.length+bF bD x.U<=1048576/\(x.U.length<=140737488355328 ->
 x=x)))):=by kernel_rfl
theorem OO(hE:aG [qv,mg]):aJ.Good nO:=by
 refine⟨aA BH rfl (by decide),?_⟩
 show ∀ (x:av),(fV x<=1048576)->bh prog we [.val ⟨(.st .proof),x⟩] (·=[⟨(.st .proof),x⟩])
 intro x hp
 refine aM (wr:=[]) (cl:=[]) (ro:=[1]) hE BH JR (Ew x) ?_
 rewrite [Pp x]
 rw[Nn] at hp
 refine λ _=>⟨?_,λ _=>rfl⟩
 all_goals try and_intros
 all_goals first|rfl|trivial|omega|(simp only[a8p,a8q,aw,O,cr,cW,cH,br] at *;omega)|(simp[aw,O] at *;omega)|grind
theorem Ko:aJ.Good nO:=OO ⟨Og,Il,trivial⟩
end
end Go.Proofs.YtmjfpcajohhbeaaGreatDoor

set_option maxRecDepth 4000
set_option maxHeartbeats 4000000
namespace Go.Proofs.YtmjfpcajohhbeaaGreatDoor
noncomputable section
def qu:aJ:=⟨A4,[.v (.st .sig), .v (.st .sig)],λ (x:aO) (y:aO)=>⟨(none,[⟨.bool,bw x y⟩])⟩⟩
def Jg(x:aO)(y:aO):Nat->aH:=λ _ => .none
theorem T5(x:aO)(y:aO):ck (aL [] [] [] [2,3]) (au oa) (Jg x y) 0 (bg (aL [] [] [] [2,3]) oa λ r=>bp r [⟨.bool,bw x y⟩]) (aD oa [.val ⟨(.st .sig),x⟩, .val ⟨(.st .sig),y⟩]) =
 ((O x.aq ->
 (O y.aq ->
 (((!(decide (x.aq=y.aq)))=true ->
 false=(bw x y))/\((!(decide (x.aq=y.aq)))=false ->
 (O x.bd ->
 (O y.bd ->
 (((!(decide (x.bd=y.bd)))=true ->
 false=(bw x y))/\((!(decide (x.bd=y.bd)))=false ->
 true=(bw x y)))))))))):=by kernel_rfl
theorem Tn(hE:aG []):aJ.Good qu:=by
 refine⟨aA FE rfl (by decide),?_⟩
 show ∀ (x:aO) (y:aO),True->bh prog A4 [.val ⟨(.st .sig),x⟩, .val ⟨(.st .sig),y⟩] (·=[⟨.bool,bw x y⟩])
 intro x y _
 refine aM (wr:=[]) (cl:=[]) (ro:=[2,3]) hE FE NY (Jg x y) ?_
 rewrite [T5 x y]
 refine λ _ _=>⟨λ _=>?_,λ _ _ _=>⟨λ _=>?_,λ _=>?_⟩⟩
 all_goals try and_intros
 all_goals first|rfl|trivial|(simp only[a8p,a8q,aw,O] at *;omega)|(refine gA λ pM=>?_;subst pM;simp_all)|(refine pH ?_;cases x;cases y;simp_all)
theorem Oe:aJ.Good qu:=Tn trivial
def nX(n:Nat):aJ:=⟨te,[.v (.st .expr), .v (.st .expr)],λ (x:J) (y:J)=>⟨(some (cz x<n),[⟨.bool,bw x y⟩])⟩⟩
def sU:aJ:=⟨te,[.v (.st .expr), .v (.st .expr)],λ (x:J) (y:J)=>⟨(none,[⟨.bool,bw x y⟩])⟩⟩
def mr(n:Nat):aJ:=⟨qZ,[.v (.slice (.st .expr)), .v (.slice (.st .expr))],λ (xs:List J) (ys:List J)=>⟨(some (cz xs<n),[⟨.bool,bw xs ys⟩])⟩⟩
def qR:aJ:=⟨qZ,[.v (.slice (.st .expr)), .v (.slice (.st .expr))],λ (xs:List J) (ys:List J)=>⟨(none,[⟨.bool,bw xs ys⟩])⟩⟩
def Gw(x:J)(y:J):Nat->aH:=λ _ => .none
theorem Q9(n:Nat)(x:J)(y:J):ck (aL [mr n] [] [] [2,3]) (au lP) (Gw x y) 0 (bg (aL [mr n] [] [] [2,3]) lP λ r=>bp r [⟨.bool,bw x y⟩]) (aD lP [.val ⟨(.st .expr),x⟩, .val ⟨(.st .expr),y⟩]) =
 ((O x.ak ->
 (O y.ak ->
 (((!(decide (x.ak=y.ak)))=true ->
 false=(bw x y))/\((!(decide (x.ak=y.ak)))=false ->
 (O x.aI ->
 (O y.aI ->
 (((!(decide (x.aI=y.aI)))=true ->
 false=(bw x y))/\((!(decide (x.aI=y.aI)))=false ->
 (x.M.length<=140737488355328 ->
 (y.M.length<=140737488355328 ->
 (cz x.M<n/\(((!(bw x.M y.M))=true ->
 false=(bw x y))/\((!(bw x.M y.M))=false ->
 true=(bw x y))))))))))))))):=by kernel_rfl
theorem QV(n:Nat)(hE:aG [mr n]):aJ.Good (nX (n+1)):=by
 refine⟨aA qK rfl (by decide),?_⟩
 show ∀ (x:J) (y:J),(cz x<n+1)->bh prog te [.val ⟨(.st .expr),x⟩, .val ⟨(.st .expr),y⟩] (·=[⟨.bool,bw x y⟩])
 intro x y hp
 refine aM (wr:=[]) (cl:=[]) (ro:=[2,3]) hE qK LK (Gw x y) ?_
 rewrite [Q9 n x y]
 have f0k:=dV x
 refine λ _ _=>⟨λ _=>?_,λ _ _ _=>⟨λ _=>?_,λ _ _ _=>⟨?_,λ _=>?_,λ _=>?_⟩⟩⟩
 all_goals try and_intros
 all_goals first|rfl|trivial|(simp only[a8p,a8q,aw,O] at *;omega)|(refine gA λ pM=>?_;subst pM;simp_all)|(refine pH ?_;cases x;cases y;simp_all)
def Eo(xs:List J)(ys:List J):Nat->aH:=(λ zb=>if Nat.beq zb 0 then .mk (Nat) (λ k=>k<=xs.length/\xs.length=ys.length/\xs.take k=ys.take k) (λ k=>xs.length - k) [] [2,3,6,7,8,9,10] (λ k=>[(5, .aW ⟨(.int .i64),((k:Int):Int)⟩)]) [0,1,4,5,11,12,13,14,15,16,17,18,19,20,21,22,23,24,25,26] (λ k=>[]) [] [] (λ k=>λ _ => .none) else .none)
theorem Pf(n:Nat)(xs:List J)(ys:List J):ck (aL [nX n]) (au jZ) (Eo xs ys) 0 (bg (aL [nX n]) jZ λ r=>bp r [⟨.bool,bw xs ys⟩]) (aD jZ [.val ⟨(.slice (.st .expr)),xs⟩, .val ⟨(.slice (.st .expr)),ys⟩]) =
 ((O ((xs.length:Int)) ->
 (O ((ys.length:Int)) ->
 (((!(decide (((xs.length:Int))=((ys.length:Int)))))=true ->
 false=(bw xs ys))/\((!(decide (((xs.length:Int))=((ys.length:Int)))))=false ->
 ((∃ k1:Nat,((k1<=xs.length/\xs.length=ys.length/\xs.take k1=ys.take k1)/\((xs=xs/\(ys=ys/\((0:Int)=(k1:Int)/\True)))/\True)))/\(∀ k1:Nat,((k1<=xs.length/\xs.length=ys.length/\xs.take k1=ys.take k1) ->
 (O ((xs.length:Int)) ->
 (((decide ((k1:Int)<((xs.length:Int))))=true ->
 (aw (k1:Int) xs.length/\(aw (k1:Int) ys.length/\(cz (xs.getD k1 zE)<n/\(((!(bw (xs.getD k1 zE) (ys.getD k1 zE)))=true ->
 false=(bw xs ys))/\((!(bw (xs.getD k1 zE) (ys.getD k1 zE)))=false ->
 (O ((k1:Int)+(1:Int))/\(∃ k2:Nat,((k2<=xs.length/\xs.length=ys.length/\xs.take k2=ys.take k2)/\(xs.length - k2<xs.length - k1/\((xs=xs/\(ys=ys/\(((k1:Int)+(1:Int))=(k2:Int)/\True)))/\True)))))))))))/\((decide ((k1:Int)<((xs.length:Int))))=false ->
 true=(bw xs ys)))))))))))):=by kernel_rfl
theorem OH(n:Nat)(hE:aG [nX n]):aJ.Good (mr (n+1)):=by
 refine⟨aA py rfl (by decide),?_⟩
 show ∀ (xs:List J) (ys:List J),(cz xs<n+1)->bh prog qZ [.val ⟨(.slice (.st .expr)),xs⟩, .val ⟨(.slice (.st .expr)),ys⟩] (·=[⟨.bool,bw xs ys⟩])
 intro xs ys hp
 refine aM (wr:=[]) (cl:=[]) (ro:=[]) hE py JK (Eo xs ys) ?_
 rewrite [Pf n xs ys]
 refine λ _ _=>⟨λ _=>?_,λ _=>⟨⟨0,?_,⟨rfl,rfl,?_,trivial⟩,trivial⟩,λ k1 _=>have ZX:=iB zE xs ys k1;have ZY:=dJ xs ys k1;have a6e:=cq zE xs k1;λ _=>⟨λ _=>⟨?_,?_,?_,λ _=>?_,λ _=>⟨?_,k1+1,?_,?_,⟨rfl,rfl,?_,trivial⟩,trivial⟩⟩,λ _=>?_⟩⟩⟩
 all_goals try and_intros
 all_goals first|rfl|trivial|(simp only[a8p,a8q,a8X,b2n,a8J,aw,O] at *;first|omega|(refine gA λ pM=>?_;subst pM;simp_all;done)|(refine pH (dJ _ _ _ (by omega) (by omega) (by simp_all))))|(refine gA λ pM=>?_;subst pM;simp_all;done)|(simp_all;done)|(refine iB zE _ _ _ (by simp_all;omega) (by simp_all;omega) (by simp_all) ?_;simp_all;done)
theorem CW :∀ n,aG [nX n,mr n]
 | 0=>⟨⟨aA qK rfl (by decide),λ _ _ h=>absurd h (a9p _)⟩,⟨aA py rfl (by decide),λ _ _ h=>absurd h (a9p _)⟩,trivial⟩
 | n+1=>by
  have ih:=CW  n
  exact⟨QV n ⟨ih.2.1,trivial⟩,OH n ⟨ih.1,trivial⟩,trivial⟩
theorem Mh :aJ.Good sU :=
 ⟨aA qK rfl (by decide),λ x y hp=>(CW  (cz x+1)).1.2 x y (a9h _)⟩
theorem Kh :aJ.Good qR :=
 ⟨aA py rfl (by decide),λ xs ys hp=>(CW  (cz xs+1)).2.1.2 xs ys (a9h _)⟩
def mb:aJ:=⟨uc,[.v (.slice (.int .i64)), .v (.slice (.int .i64))],λ (xs:List Int) (ys:List Int)=>⟨(none,[⟨.bool,bw xs ys⟩])⟩⟩
def Cu(xs:List Int)(ys:List Int):Nat->aH:=(λ zb=>if Nat.beq zb 0 then .mk (Nat) (λ k=>k<=xs.length/\xs.length=ys.length/\xs.take k=ys.take k) (λ k=>xs.length - k) [] [2,3,6,7,8,9,10] (λ k=>[(5, .aW ⟨(.int .i64),((k:Int):Int)⟩)]) [0,1,4,5,11,12,13,14,15,16,17,18,19,20,21,22,23,24,25] (λ k=>[]) [] [] (λ k=>λ _ => .none) else .none)
theorem NB(xs:List Int)(ys:List Int):ck (aL []) (au jg) (Cu xs ys) 0 (bg (aL []) jg λ r=>bp r [⟨.bool,bw xs ys⟩]) (aD jg [.val ⟨(.slice (.int .i64)),xs⟩, .val ⟨(.slice (.int .i64)),ys⟩]) =
 ((O ((xs.length:Int)) ->
 (O ((ys.length:Int)) ->
 (((!(decide (((xs.length:Int))=((ys.length:Int)))))=true ->
 false=(bw xs ys))/\((!(decide (((xs.length:Int))=((ys.length:Int)))))=false ->
 ((∃ k1:Nat,((k1<=xs.length/\xs.length=ys.length/\xs.take k1=ys.take k1)/\((xs=xs/\(ys=ys/\((0:Int)=(k1:Int)/\True)))/\True)))/\(∀ k1:Nat,((k1<=xs.length/\xs.length=ys.length/\xs.take k1=ys.take k1) ->
 (O ((xs.length:Int)) ->
 (((decide ((k1:Int)<((xs.length:Int))))=true ->
 (aw (k1:Int) xs.length/\(aw (k1:Int) ys.length/\(O (xs.getD k1 (0:Int)) ->
 (O (ys.getD k1 (0:Int)) ->
 (((!(decide ((xs.getD k1 (0:Int))=(ys.getD k1 (0:Int)))))=true ->
 false=(bw xs ys))/\((!(decide ((xs.getD k1 (0:Int))=(ys.getD k1 (0:Int)))))=false ->
 (O ((k1:Int)+(1:Int))/\(∃ k2:Nat,((k2<=xs.length/\xs.length=ys.length/\xs.take k2=ys.take k2)/\(xs.length - k2<xs.length - k1/\((xs=xs/\(ys=ys/\(((k1:Int)+(1:Int))=(k2:Int)/\True)))/\True))))))))))))/\((decide ((k1:Int)<((xs.length:Int))))=false ->
 true=(bw xs ys)))))))))))):=by kernel_rfl
theorem MT(hE:aG []):aJ.Good mb:=by
 refine⟨aA zz rfl (by decide),?_⟩
 show ∀ (xs:List Int) (ys:List Int),True->bh prog uc [.val ⟨(.slice (.int .i64)),xs⟩, .val ⟨(.slice (.int .i64)),ys⟩] (·=[⟨.bool,bw xs ys⟩])
 intro xs ys _
 refine aM (wr:=[]) (cl:=[]) (ro:=[]) hE zz HY (Cu xs ys) ?_
 rewrite [NB xs ys]
 refine λ _ _=>⟨λ _=>?_,λ _=>⟨⟨0,?_,⟨rfl,rfl,?_,trivial⟩,trivial⟩,λ k1 _=>have ZX:=iB (0:Int) xs ys k1;have ZY:=dJ xs ys k1;λ _=>⟨λ _=>⟨?_,?_,λ _ _=>⟨λ _=>?_,λ _=>⟨?_,k1+1,?_,?_,⟨rfl,rfl,?_,trivial⟩,trivial⟩⟩⟩,λ _=>?_⟩⟩⟩
 all_goals try and_intros
 all_goals first|rfl|trivial|(simp only[a8p,a8q,a8X,b2n,a8J,aw,O] at *;first|omega|(refine gA λ pM=>?_;subst pM;simp_all;done)|(refine pH (dJ _ _ _ (by omega) (by omega) (by simp_all))))|(refine gA λ pM=>?_;subst pM;simp_all;done)|(simp_all;done)|(refine iB (0:Int) _ _ _ (by simp_all;omega) (by simp_all;omega) (by simp_all) ?_;simp_all;done)
theorem Ii:aJ.Good mb:=MT trivial
def iE:aJ:=⟨qj,[.v (.st .proofStep), .v (.st .proofStep)],λ (x:ai) (y:ai)=>⟨(none,[⟨.bool,bw x y⟩])⟩⟩
def wM(x:ai)(y:ai):Nat->aH:=λ _ => .none
theorem Hn(x:ai)(y:ai):ck (aL [mb,qR] [] [] [2,3]) (au fP) (wM x y) 0 (bg (aL [mb,qR] [] [] [2,3]) fP λ r=>bp r [⟨.bool,bw x y⟩]) (aD fP [.val ⟨(.st .proofStep),x⟩, .val ⟨(.st .proofStep),y⟩]) =
 ((O x.use ->
 (O y.use ->
 (((!(decide (x.use=y.use)))=true ->
 false=(bw x y))/\((!(decide (x.use=y.use)))=false ->
 (((!(x.back == y.back))=true ->
 false=(bw x y))/\((!(x.back == y.back))=false ->
 (x.path.length<=140737488355328 ->
 (y.path.length<=140737488355328 ->
 (((!(bw x.path y.path))=true ->
 false=(bw x y))/\((!(bw x.path y.path))=false ->
 (x.aq.length<=140737488355328 ->
 (y.aq.length<=140737488355328 ->
 (((!(bw x.aq y.aq))=true ->
 false=(bw x y))/\((!(bw x.aq y.aq))=false ->
 (x.bm.length<=140737488355328 ->
 (y.bm.length<=140737488355328 ->
 (((!(bw x.bm y.bm))=true ->
 false=(bw x y))/\((!(bw x.bm y.bm))=false ->
 true=(bw x y)))))))))))))))))))):=by kernel_rfl
theorem GU(hE:aG [mb,qR]):aJ.Good iE:=by
 refine⟨aA uV rfl (by decide),?_⟩
 show ∀ (x:ai) (y:ai),True->bh prog qj [.val ⟨(.st .proofStep),x⟩, .val ⟨(.st .proofStep),y⟩] (·=[⟨.bool,bw x y⟩])
 intro x y _
 refine aM (wr:=[]) (cl:=[]) (ro:=[2,3]) hE uV C7 (wM x y) ?_
 rewrite [Hn x y]
 refine λ _ _=>⟨λ _=>?_,λ _=>⟨λ _=>?_,λ _ _ _=>⟨λ _=>?_,λ _ _ _=>⟨λ _=>?_,λ _ _ _=>⟨λ _=>?_,λ _=>?_⟩⟩⟩⟩⟩
 all_goals try and_intros
 all_goals first|rfl|trivial|(simp only[a8p,a8q,aw,O] at *;omega)|(refine gA λ pM=>?_;subst pM;simp_all)|(refine pH ?_;cases x;cases y;simp_all)
theorem Dl:aJ.Good iE:=GU ⟨Ii,Kh,trivial⟩
def gQ:aJ:=⟨pg,[.v (.slice (.st .proofStep)), .v (.slice (.st .proofStep))],λ (xs:List ai) (ys:List ai)=>⟨(none,[⟨.bool,bw xs ys⟩])⟩⟩
def vn(xs:List ai)(ys:List ai):Nat->aH:=(λ zb=>if Nat.beq zb 0 then .mk (Nat) (λ k=>k<=xs.length/\xs.length=ys.length/\xs.take k=ys.take k) (λ k=>xs.length - k) [] [2,3,6,7,8,9,10] (λ k=>[(5, .aW ⟨(.int .i64),((k:Int):Int)⟩)]) [0,1,4,5,11,12,13,14,15,16,17,18,19,20,21,22,23,24,25,26] (λ k=>[]) [] [] (λ k=>λ _ => .none) else .none)
theorem Fq(xs:List ai)(ys:List ai):ck (aL [iE]) (au ff) (vn xs ys) 0 (bg (aL [iE]) ff λ r=>bp r [⟨.bool,bw xs ys⟩]) (aD ff [.val ⟨(.slice (.st .proofStep)),xs⟩, .val ⟨(.slice (.st .proofStep)),ys⟩]) =
 ((O ((xs.length:Int)) ->
 (O ((ys.length:Int)) ->
 (((!(decide (((xs.length:Int))=((ys.length:Int)))))=true ->
 false=(bw xs ys))/\((!(decide (((xs.length:Int))=((ys.length:Int)))))=false ->
 ((∃ k1:Nat,((k1<=xs.length/\xs.length=ys.length/\xs.take k1=ys.take k1)/\((xs=xs/\(ys=ys/\((0:Int)=(k1:Int)/\True)))/\True)))/\(∀ k1:Nat,((k1<=xs.length/\xs.length=ys.length/\xs.take k1=ys.take k1) ->
 (O ((xs.length:Int)) ->
 (((decide ((k1:Int)<((xs.length:Int))))=true ->
 (aw (k1:Int) xs.length/\(aw (k1:Int) ys.length/\(((!(bw (xs.getD k1 (ai.mk (0:Int) false [] [] [])) (ys.getD k1 (ai.mk (0:Int) false [] [] []))))=true ->
 false=(bw xs ys))/\((!(bw (xs.getD k1 (ai.mk (0:Int) false [] [] [])) (ys.getD k1 (ai.mk (0:Int) false [] [] []))))=false ->
 (O ((k1:Int)+(1:Int))/\(∃ k2:Nat,((k2<=xs.length/\xs.length=ys.length/\xs.take k2=ys.take k2)/\(xs.length - k2<xs.length - k1/\((xs=xs/\(ys=ys/\(((k1:Int)+(1:Int))=(k2:Int)/\True)))/\True))))))))))/\((decide ((k1:Int)<((xs.length:Int))))=false ->
 true=(bw xs ys)))))))))))):=by kernel_rfl
theorem Fg(hE:aG [iE]):aJ.Good gQ:=by
 refine⟨aA tx rfl (by decide),?_⟩
 show ∀ (xs:List ai) (ys:List ai),True->bh prog pg [.val ⟨(.slice (.st .proofStep)),xs⟩, .val ⟨(.slice (.st .proofStep)),ys⟩] (·=[⟨.bool,bw xs ys⟩])
 intro xs ys _
 refine aM (wr:=[]) (cl:=[]) (ro:=[]) hE tx BT (vn xs ys) ?_
 rewrite [Fq xs ys]
 refine λ _ _=>⟨λ _=>?_,λ _=>⟨⟨0,?_,⟨rfl,rfl,?_,trivial⟩,trivial⟩,λ k1 _=>have ZX:=iB (ai.mk (0:Int) false [] [] []) xs ys k1;have ZY:=dJ xs ys k1;λ _=>⟨λ _=>⟨?_,?_,λ _=>?_,λ _=>⟨?_,k1+1,?_,?_,⟨rfl,rfl,?_,trivial⟩,trivial⟩⟩,λ _=>?_⟩⟩⟩
 all_goals try and_intros
 all_goals first|rfl|trivial|(simp only[a8p,a8q,a8X,b2n,a8J,aw,O] at *;first|omega|(refine gA λ pM=>?_;subst pM;simp_all;done)|(refine pH (dJ _ _ _ (by omega) (by omega) (by simp_all))))|(refine gA λ pM=>?_;subst pM;simp_all;done)|(simp_all;done)|(refine iB (ai.mk (0:Int) false [] [] []) _ _ _ (by simp_all;omega) (by simp_all;omega) (by simp_all) ?_;simp_all;done)
theorem B7:aJ.Good gQ:=Fg ⟨Dl,trivial⟩
def nJ:aJ:=⟨vZ,[.v (.st .claim), .v (.st .claim)],λ (x:ae) (y:ae)=>⟨(none,[⟨.bool,bw x y⟩])⟩⟩
def En(x:ae)(y:ae):Nat->aH:=λ _ => .none
theorem Pe(x:ae)(y:ae):ck (aL [sU,gQ] [] [] [2,3]) (au jY) (En x y) 0 (bg (aL [sU,gQ] [] [] [2,3]) jY λ r=>bp r [⟨.bool,bw x y⟩]) (aD jY [.val ⟨(.st .claim),x⟩, .val ⟨(.st .claim),y⟩]) =
 ((((!(bw x.left y.left))=true ->
 false=(bw x y))/\((!(bw x.left y.left))=false ->
 (((!(bw x.right y.right))=true ->
 false=(bw x y))/\((!(bw x.right y.right))=false ->
 (O x.bO ->
 (O y.bO ->
 (((!(decide (x.bO=y.bO)))=true ->
 false=(bw x y))/\((!(decide (x.bO=y.bO)))=false ->
 (O x.ref ->
 (O y.ref ->
 (((!(decide (x.ref=y.ref)))=true ->
 false=(bw x y))/\((!(decide (x.ref=y.ref)))=false ->
 (x.steps.length<=140737488355328 ->
 (y.steps.length<=140737488355328 ->
 (((!(bw x.steps y.steps))=true ->
 false=(bw x y))/\((!(bw x.steps y.steps))=false ->
 true=(bw x y)))))))))))))))))):=by kernel_rfl
theorem OG(hE:aG [sU,gQ]):aJ.Good nJ:=by
 refine⟨aA BC rfl (by decide),?_⟩
 show ∀ (x:ae) (y:ae),True->bh prog vZ [.val ⟨(.st .claim),x⟩, .val ⟨(.st .claim),y⟩] (·=[⟨.bool,bw x y⟩])
 intro x y _
 refine aM (wr:=[]) (cl:=[]) (ro:=[2,3]) hE BC JJ (En x y) ?_
 rewrite [Pe x y]
 refine⟨λ _=>?_,λ _=>⟨λ _=>?_,λ _ _ _=>⟨λ _=>?_,λ _ _ _=>⟨λ _=>?_,λ _ _ _=>⟨λ _=>?_,λ _=>?_⟩⟩⟩⟩⟩
 all_goals try and_intros
 all_goals first|rfl|trivial|(simp only[a8p,a8q,aw,O] at *;omega)|(refine gA λ pM=>?_;subst pM;simp_all)|(refine pH ?_;cases x;cases y;simp_all)
theorem Kg:aJ.Good nJ:=OG ⟨Mh,B7,trivial⟩
def ma:aJ:=⟨ub,[.v (.slice (.st .claim)), .v (.slice (.st .claim))],λ (xs:List ae) (ys:List ae)=>⟨(none,[⟨.bool,bw xs ys⟩])⟩⟩
def Ct(xs:List ae)(ys:List ae):Nat->aH:=(λ zb=>if Nat.beq zb 0 then .mk (Nat) (λ k=>k<=xs.length/\xs.length=ys.length/\xs.take k=ys.take k) (λ k=>xs.length - k) [] [2,3,6,7,8,9,10] (λ k=>[(5, .aW ⟨(.int .i64),((k:Int):Int)⟩)]) [0,1,4,5,11,12,13,14,15,16,17,18,19,20,21,22,23,24,25,26] (λ k=>[]) [] [] (λ k=>λ _ => .none) else .none)
theorem NA(xs:List ae)(ys:List ae):ck (aL [nJ]) (au jf) (Ct xs ys) 0 (bg (aL [nJ]) jf λ r=>bp r [⟨.bool,bw xs ys⟩]) (aD jf [.val ⟨(.slice (.st .claim)),xs⟩, .val ⟨(.slice (.st .claim)),ys⟩]) =
 ((O ((xs.length:Int)) ->
 (O ((ys.length:Int)) ->
 (((!(decide (((xs.length:Int))=((ys.length:Int)))))=true ->
 false=(bw xs ys))/\((!(decide (((xs.length:Int))=((ys.length:Int)))))=false ->
 ((∃ k1:Nat,((k1<=xs.length/\xs.length=ys.length/\xs.take k1=ys.take k1)/\((xs=xs/\(ys=ys/\((0:Int)=(k1:Int)/\True)))/\True)))/\(∀ k1:Nat,((k1<=xs.length/\xs.length=ys.length/\xs.take k1=ys.take k1) ->
 (O ((xs.length:Int)) ->
 (((decide ((k1:Int)<((xs.length:Int))))=true ->
 (aw (k1:Int) xs.length/\(aw (k1:Int) ys.length/\(((!(bw (xs.getD k1 (ae.mk zE zE (0:Int) (0:Int) [])) (ys.getD k1 (ae.mk zE zE (0:Int) (0:Int) []))))=true ->
 false=(bw xs ys))/\((!(bw (xs.getD k1 (ae.mk zE zE (0:Int) (0:Int) [])) (ys.getD k1 (ae.mk zE zE (0:Int) (0:Int) []))))=false ->
 (O ((k1:Int)+(1:Int))/\(∃ k2:Nat,((k2<=xs.length/\xs.length=ys.length/\xs.take k2=ys.take k2)/\(xs.length - k2<xs.length - k1/\((xs=xs/\(ys=ys/\(((k1:Int)+(1:Int))=(k2:Int)/\True)))/\True))))))))))/\((decide ((k1:Int)<((xs.length:Int))))=false ->
 true=(bw xs ys)))))))))))):=by kernel_rfl
theorem MS(hE:aG [nJ]):aJ.Good ma:=by
 refine⟨aA zy rfl (by decide),?_⟩
 show ∀ (xs:List ae) (ys:List ae),True->bh prog ub [.val ⟨(.slice (.st .claim)),xs⟩, .val ⟨(.slice (.st .claim)),ys⟩] (·=[⟨.bool,bw xs ys⟩])
 intro xs ys _
 refine aM (wr:=[]) (cl:=[]) (ro:=[]) hE zy HX (Ct xs ys) ?_
 rewrite [NA xs ys]
 refine λ _ _=>⟨λ _=>?_,λ _=>⟨⟨0,?_,⟨rfl,rfl,?_,trivial⟩,trivial⟩,λ k1 _=>have ZX:=iB (ae.mk zE zE (0:Int) (0:Int) []) xs ys k1;have ZY:=dJ xs ys k1;λ _=>⟨λ _=>⟨?_,?_,λ _=>?_,λ _=>⟨?_,k1+1,?_,?_,⟨rfl,rfl,?_,trivial⟩,trivial⟩⟩,λ _=>?_⟩⟩⟩
 all_goals try and_intros
 all_goals first|rfl|trivial|(simp only[a8p,a8q,a8X,b2n,a8J,aw,O] at *;first|omega|(refine gA λ pM=>?_;subst pM;simp_all;done)|(refine pH (dJ _ _ _ (by omega) (by omega) (by simp_all))))|(refine gA λ pM=>?_;subst pM;simp_all;done)|(simp_all;done)|(refine iB (ae.mk zE zE (0:Int) (0:Int) []) _ _ _ (by simp_all;omega) (by simp_all;omega) (by simp_all) ?_;simp_all;done)
theorem Ih:aJ.Good ma:=MS ⟨Kg,trivial⟩
def nK:aJ:=⟨v7,[.v (.st .proof), .v (.st .proof)],λ (x:av) (y:av)=>⟨(none,[⟨.bool,bw x y⟩])⟩⟩
def Ep(x:av)(y:av):Nat->aH:=λ _ => .none
theorem Pg(x:av)(y:av):ck (aL [qu,ma] [] [] [2,3]) (au j8) (Ep x y) 0 (bg (aL [qu,ma] [] [] [2,3]) j8 λ r=>bp r [⟨.bool,bw x y⟩]) (aD j8 [.val ⟨(.st .proof),x⟩, .val ⟨(.st .proof),y⟩]) =
 ((((!(bw x.sig y.sig))=true ->
 false=(bw x y))/\((!(bw x.sig y.sig))=false ->
 (x.U.length<=140737488355328 ->
 (y.U.length<=140737488355328 ->
 (((!(bw x.U y.U))=true ->
 false=(bw x y))/\((!(bw x.U y.U))=false ->
 true=(bw x y)))))))):=by kernel_rfl
theorem OI(hE:aG [qu,ma]):aJ.Good nK:=by
 refine⟨aA BD rfl (by decide),?_⟩
 show ∀ (x:av) (y:av),True->bh prog v7 [.val ⟨(.st .proof),x⟩, .val ⟨(.st .proof),y⟩] (·=[⟨.bool,bw x y⟩])
 intro x y _
 refine aM (wr:=[]) (cl:=[]) (ro:=[2,3]) hE BD JL (Ep x y) ?_
 rewrite [Pg x y]
 refine⟨λ _=>?_,λ _ _ _=>⟨λ _=>?_,λ _=>?_⟩⟩
 all_goals try and_intros
 all_goals first|rfl|trivial|(simp only[a8p,a8q,aw,O] at *;omega)|(refine gA λ pM=>?_;subst pM;simp_all)|(refine pH ?_;cases x;cases y;simp_all)
theorem Ki:aJ.Good nK:=OI ⟨Oe,Ih,trivial⟩
end
end Go.Proofs.YtmjfpcajohhbeaaGreatDoor

set_option maxRecDepth 4000
set_option maxHeartbeats 4000000
namespace Go.Proofs.YtmjfpcajohhbeaaGreatDoor
noncomputable section
mutual
def aF:J->Nat
 | ⟨_,_,ks⟩=>1+df ks
def df:List J->Nat
 | []=>0
 | k::ks=>aF k+df ks
end
theorem Qi:∀ xs,df xs=bF aF xs
 | []=>rfl
 | x::xs=>by rw[df,bF,Qi xs]
theorem yD(x:J):aF x=1+bF aF x.M:=by
 cases x;simp[aF,Qi]
mutual
def bJ:J->Nat
 | ⟨_,_,ks⟩=>1+xI ks
def xI:List J->Nat
 | []=>0
 | k::ks=>max (bJ k) (xI ks)
end
theorem P2:∀ xs,xI xs=iR bJ xs
 | []=>rfl
 | x::xs=>by rw[xI,iR,P2 xs]
theorem jB(x:J):bJ x=1+iR bJ x.M:=by
 cases x;simp[bJ,P2]
mutual
theorem L0:∀ x:J,bJ x<=aF x
 | ⟨k,n,ks⟩=>by
  have:=I2 ks
  simp only[bJ,aF];omega
theorem I2:∀ xs:List J,xI xs<=df xs
 | []=>by simp[xI]
 | x::xs=>by
  have h1:=L0 x
  have h2:=I2 xs
  simp only[xI,df];omega
end
def J6(k:Int):Bool:=decide (k=1)||decide (k=2)||decide (k=3)||decide (k=5)||decide (k=6)||decide (k=7)
mutual
def bj:J->Bool
 | ⟨k,_,ks⟩=>J6 k&&Rj ks
def Rj:List J->Bool
 | []=>true
 | k::ks=>bj k&&Rj ks
end
theorem Sb:∀ xs,Rj xs=bq bj xs
 | []=>rfl
 | x::xs=>by rw[Rj,bq,Sb xs]
theorem N4(x:J):bj x=(J6 x.ak&&bq bj x.M):=by
 cases x;simp[bj,Sb]
def cN(k:Int):Int:=if k=1\/k=2\/k=3\/k=4 then 0 else if k=5\/k=8 then 1 else if k=6\/k=7 then 2 else -1
def cp:aJ:=⟨yw,[.v (.int .i64), .v (.int .i64), .v (.int .i64)],λ (n:Int) (least:Int) (most:Int)=>⟨(none,[⟨.bool,decide (least<=n/\n<=most)⟩])⟩⟩
def Gv(n:Int)(least:Int)(most:Int):Nat->aH:=λ _ => .none
theorem Q8(n:Int)(least:Int)(most:Int):ck (aL []) (au lO) (Gv n least most) 0 (bg (aL []) lO λ r=>bp r [⟨.bool,decide (least<=n/\n<=most)⟩]) (aD lO [.val ⟨(.int .i64),n⟩, .val ⟨(.int .i64),least⟩, .val ⟨(.int .i64),most⟩]) =
 ((((decide (least<=n))=true ->
 ((decide (n<=most))=(decide (least<=n/\n<=most))))/\((decide (least<=n))=(!true) ->
 (false=(decide (least<=n/\n<=most)))))):=by kernel_rfl
theorem QU(hE:aG []):aJ.Good cp:=by
 refine⟨aA D6 rfl (by decide),?_⟩
 show ∀ (n:Int) (least:Int) (most:Int),True->bh prog yw [.val ⟨(.int .i64),n⟩, .val ⟨(.int .i64),least⟩, .val ⟨(.int .i64),most⟩] (·=[⟨.bool,decide (least<=n/\n<=most)⟩])
 intro n least most _
 refine aM (wr:=[]) (cl:=[]) (ro:=[]) hE D6 LJ (Gv n least most) ?_
 rewrite [Q8 n least most]
 refine⟨λ _=>?_,λ _=>?_⟩
 all_goals try and_intros
 all_goals first|rfl|trivial|(simp_all;done)|(simp_all;omega)
theorem ie:aJ.Good cp:=QU trivial
def cV:aJ:=⟨uK,[.v (.int .i64), .v (.int .i64), .v (.int .i64)],λ (n:Int) (low:Int) (high:Int)=>⟨(none,[⟨.bool,decide (low<=n/\n<=high)⟩])⟩⟩
def Ji(n:Int)(low:Int)(high:Int):Nat->aH:=λ _ => .none
theorem T7(n:Int)(low:Int)(high:Int):ck (aL []) (au oe) (Ji n low high) 0 (bg (aL []) oe λ r=>bp r [⟨.bool,decide (low<=n/\n<=high)⟩]) (aD oe [.val ⟨(.int .i64),n⟩, .val ⟨(.int .i64),low⟩, .val ⟨(.int .i64),high⟩]) =
 ((((decide (low<=n))=true ->
 ((decide (n<=high))=(decide (low<=n/\n<=high))))/\((decide (low<=n))=(!true) ->
 (false=(decide (low<=n/\n<=high)))))):=by kernel_rfl
theorem Tp(hE:aG []):aJ.Good cV:=by
 refine⟨aA FG rfl (by decide),?_⟩
 show ∀ (n:Int) (low:Int) (high:Int),True->bh prog uK [.val ⟨(.int .i64),n⟩, .val ⟨(.int .i64),low⟩, .val ⟨(.int .i64),high⟩] (·=[⟨.bool,decide (low<=n/\n<=high)⟩])
 intro n low high _
 refine aM (wr:=[]) (cl:=[]) (ro:=[]) hE FG N0 (Ji n low high) ?_
 rewrite [T7 n low high]
 refine⟨λ _=>?_,λ _=>?_⟩
 all_goals try and_intros
 all_goals first|rfl|trivial|(simp_all;done)|(simp_all;omega)
theorem l5:aJ.Good cV:=Tp trivial
def gT:aJ:=⟨yx,[.v (.int .i64), .v (.int .i64)],λ (a:Int) (b:Int)=>⟨(none,[⟨(.int .i64),max a b⟩])⟩⟩
def Gz(a:Int)(b:Int):Nat->aH:=λ _ => .none
theorem Re(a:Int)(b:Int):ck (aL []) (au lS) (Gz a b) 0 (bg (aL []) lS λ r=>bp r [⟨(.int .i64),max a b⟩]) (aD lS [.val ⟨(.int .i64),a⟩, .val ⟨(.int .i64),b⟩]) =
 ((((decide (b<a))=true ->
 a=(max a b))/\((decide (b<a))=false ->
 b=(max a b)))):=by kernel_rfl
theorem QY(hE:aG []):aJ.Good gT:=by
 refine⟨aA D7 rfl (by decide),?_⟩
 show ∀ (a:Int) (b:Int),True->bh prog yx [.val ⟨(.int .i64),a⟩, .val ⟨(.int .i64),b⟩] (·=[⟨(.int .i64),max a b⟩])
 intro a b _
 refine aM (wr:=[]) (cl:=[]) (ro:=[]) hE D7 LN (Gz a b) ?_
 rewrite [Re a b]
 refine⟨λ _=>?_,λ _=>?_⟩
 all_goals try and_intros
 all_goals first|rfl|trivial|(simp_all;omega)
theorem zR:aJ.Good gT:=QY trivial
def o8:aJ:=⟨yq,[.v (.int .i64)],λ (k:Int)=>⟨(none,[⟨(.int .i64),cN k⟩])⟩⟩
def Gr(k:Int):Nat->aH:=λ _ => .none
abbrev Ck(k:Int):Prop:=(((decide (k=(6:Int)))=true ->
 (((decide (k=(6:Int)))=true ->
 (2:Int)=(cN k))/\((decide (k=(6:Int)))=false ->
 (-1:Int)=(cN k))))/\((decide (k=(6:Int)))=false ->
 (((decide (k=(7:Int)))=true ->
 (2:Int)=(cN k))/\((decide (k=(7:Int)))=false ->
 (-1:Int)=(cN k)))))
abbrev pO(k:Int):Prop:=(((decide (k=(5:Int)))=true ->
 (((decide (k=(5:Int)))=true ->
 (1:Int)=(cN k))/\((decide (k=(5:Int)))=false ->
 (Ck k))))/\((decide (k=(5:Int)))=false ->
 (((decide (k=(8:Int)))=true ->
 (1:Int)=(cN k))/\((decide (k=(8:Int)))=false ->
 (Ck k)))))
theorem Q4(k:Int):ck (aL []) (au lK) (Gr k) 0 (bg (aL []) lK λ r=>bp r [⟨(.int .i64),cN k⟩]) (aD lK [.val ⟨(.int .i64),k⟩]) =
 ((((decide (k=(1:Int)))=true ->
 (((decide (k=(1:Int)))=true ->
 (0:Int)=(cN k))/\((decide (k=(1:Int)))=false ->
 (pO k))))/\((decide (k=(1:Int)))=false ->
 (((decide (k=(2:Int)))=true ->
 (((decide (k=(2:Int)))=true ->
 (0:Int)=(cN k))/\((decide (k=(2:Int)))=false ->
 (pO k))))/\((decide (k=(2:Int)))=false ->
 (((decide (k=(3:Int)))=true ->
 (((decide (k=(3:Int)))=true ->
 (0:Int)=(cN k))/\((decide (k=(3:Int)))=false ->
 (pO k))))/\((decide (k=(3:Int)))=false ->
 (((decide (k=(4:Int)))=true ->
 (0:Int)=(cN k))/\((decide (k=(4:Int)))=false ->
 (pO k)))))))))):=by kernel_rfl
theorem QQ(hE:aG []):aJ.Good o8:=by
 refine⟨aA D3 rfl (by decide),?_⟩
 show ∀ (k:Int),True->bh prog yq [.val ⟨(.int .i64),k⟩] (·=[⟨(.int .i64),cN k⟩])
 intro k _
 refine aM (wr:=[]) (cl:=[]) (ro:=[]) hE D3 LF (Gr k) ?_
 rewrite [Q4 k]
 refine⟨λ _=>⟨λ _=>?_,λ _=>⟨λ _=>⟨λ _=>?_,λ _=>⟨λ _=>⟨λ _=>?_,λ _=>?_⟩,λ _=>⟨λ _=>?_,λ _=>?_⟩⟩⟩,λ _=>⟨λ _=>?_,λ _=>⟨λ _=>⟨λ _=>?_,λ _=>?_⟩,λ _=>⟨λ _=>?_,λ _=>?_⟩⟩⟩⟩⟩,λ _=>⟨λ _=>⟨λ _=>?_,λ _=>⟨λ _=>⟨λ _=>?_,λ _=>⟨λ _=>⟨λ _=>?_,λ _=>?_⟩,λ _=>⟨λ _=>?_,λ _=>?_⟩⟩⟩,λ _=>⟨λ _=>?_,λ _=>⟨λ _=>⟨λ _=>?_,λ _=>?_⟩,λ _=>⟨λ _=>?_,λ _=>?_⟩⟩⟩⟩⟩,λ _=>⟨λ _=>⟨λ _=>?_,λ _=>⟨λ _=>⟨λ _=>?_,λ _=>⟨λ _=>⟨λ _=>?_,λ _=>?_⟩,λ _=>⟨λ _=>?_,λ _=>?_⟩⟩⟩,λ _=>⟨λ _=>?_,λ _=>⟨λ _=>⟨λ _=>?_,λ _=>?_⟩,λ _=>⟨λ _=>?_,λ _=>?_⟩⟩⟩⟩⟩,λ _=>⟨λ _=>?_,λ _=>⟨λ _=>⟨λ _=>?_,λ _=>⟨λ _=>⟨λ _=>?_,λ _=>?_⟩,λ _=>⟨λ _=>?_,λ _=>?_⟩⟩⟩,λ _=>⟨λ _=>?_,λ _=>⟨λ _=>⟨λ _=>?_,λ _=>?_⟩,λ _=>⟨λ _=>?_,λ _=>?_⟩⟩⟩⟩⟩⟩⟩⟩
 all_goals try and_intros
 all_goals first|rfl|trivial|(simp only[decide_eq_true_eq,decide_eq_false_iff_not] at *;simp[cN, *];done)|(simp only[decide_eq_true_eq,decide_eq_false_iff_not] at *;unfold cN;repeat (first|omega|split))
theorem Md:aJ.Good o8:=QQ trivial
def nP:aJ:=⟨wg,[.v (.int .i64)],λ (k:Int)=>⟨(none,[⟨(.int .i64),cN k⟩])⟩⟩
def Ex(k:Int):Nat->aH:=λ _ => .none
abbrev z6(k:Int):Prop:=(((decide (k=(6:Int)))=true ->
 (((decide (k=(6:Int)))=true ->
 (2:Int)=(cN k))/\((decide (k=(6:Int)))=false ->
 (-1:Int)=(cN k))))/\((decide (k=(6:Int)))=false ->
 (((decide (k=(7:Int)))=true ->
 (2:Int)=(cN k))/\((decide (k=(7:Int)))=false ->
 (-1:Int)=(cN k)))))
abbrev oN(k:Int):Prop:=(((decide (k=(5:Int)))=true ->
 (((decide (k=(5:Int)))=true ->
 (1:Int)=(cN k))/\((decide (k=(5:Int)))=false ->
 (z6 k))))/\((decide (k=(5:Int)))=false ->
 (((decide (k=(8:Int)))=true ->
 (1:Int)=(cN k))/\((decide (k=(8:Int)))=false ->
 (z6 k)))))
theorem Pq(k:Int):ck (aL []) (au kh) (Ex k) 0 (bg (aL []) kh λ r=>bp r [⟨(.int .i64),cN k⟩]) (aD kh [.val ⟨(.int .i64),k⟩]) =
 ((((decide (k=(1:Int)))=true ->
 (((decide (k=(1:Int)))=true ->
 (0:Int)=(cN k))/\((decide (k=(1:Int)))=false ->
 (oN k))))/\((decide (k=(1:Int)))=false ->
 (((decide (k=(2:Int)))=true ->
 (((decide (k=(2:Int)))=true ->
 (0:Int)=(cN k))/\((decide (k=(2:Int)))=false ->
 (oN k))))/\((decide (k=(2:Int)))=false ->
 (((decide (k=(3:Int)))=true ->
 (((decide (k=(3:Int)))=true ->
 (0:Int)=(cN k))/\((decide (k=(3:Int)))=false ->
 (oN k))))/\((decide (k=(3:Int)))=false ->
 (((decide (k=(4:Int)))=true ->
 (0:Int)=(cN k))/\((decide (k=(4:Int)))=false ->
 (oN k)))))))))):=by kernel_rfl
theorem OP(hE:aG []):aJ.Good nP:=by
 refine⟨aA BI rfl (by decide),?_⟩
 show ∀ (k:Int),True->bh prog wg [.val ⟨(.int .i64),k⟩] (·=[⟨(.int .i64),cN k⟩])
 intro k _
 refine aM (wr:=[]) (cl:=[]) (ro:=[]) hE BI JS (Ex k) ?_
 rewrite [Pq k]
 refine⟨λ _=>⟨λ _=>?_,λ _=>⟨λ _=>⟨λ _=>?_,λ _=>⟨λ _=>⟨λ _=>?_,λ _=>?_⟩,λ _=>⟨λ _=>?_,λ _=>?_⟩⟩⟩,λ _=>⟨λ _=>?_,λ _=>⟨λ _=>⟨λ _=>?_,λ _=>?_⟩,λ _=>⟨λ _=>?_,λ _=>?_⟩⟩⟩⟩⟩,λ _=>⟨λ _=>⟨λ _=>?_,λ _=>⟨λ _=>⟨λ _=>?_,λ _=>⟨λ _=>⟨λ _=>?_,λ _=>?_⟩,λ _=>⟨λ _=>?_,λ _=>?_⟩⟩⟩,λ _=>⟨λ _=>?_,λ _=>⟨λ _=>⟨λ _=>?_,λ _=>?_⟩,λ _=>⟨λ _=>?_,λ _=>?_⟩⟩⟩⟩⟩,λ _=>⟨λ _=>⟨λ _=>?_,λ _=>⟨λ _=>⟨λ _=>?_,λ _=>⟨λ _=>⟨λ _=>?_,λ _=>?_⟩,λ _=>⟨λ _=>?_,λ _=>?_⟩⟩⟩,λ _=>⟨λ _=>?_,λ _=>⟨λ _=>⟨λ _=>?_,λ _=>?_⟩,λ _=>⟨λ _=>?_,λ _=>?_⟩⟩⟩⟩⟩,λ _=>⟨λ _=>?_,λ _=>⟨λ _=>⟨λ _=>?_,λ _=>⟨λ _=>⟨λ _=>?_,λ _=>?_⟩,λ _=>⟨λ _=>?_,λ _=>?_⟩⟩⟩,λ _=>⟨λ _=>?_,λ _=>⟨λ _=>⟨λ _=>?_,λ _=>?_⟩,λ _=>⟨λ _=>?_,λ _=>?_⟩⟩⟩⟩⟩⟩⟩⟩
 all_goals try and_intros
 all_goals first|rfl|trivial|(simp only[decide_eq_true_eq,decide_eq_false_iff_not] at *;simp[cN, *];done)|(simp only[decide_eq_true_eq,decide_eq_false_iff_not] at *;unfold cN;repeat (first|omega|split))
theorem Kp:aJ.Good nP:=OP trivial
def gV(n:Nat):aJ:=⟨lr,[.v (.st .expr)],λ (x:J)=>⟨(some (cz x<n),[⟨.bool,bj x⟩])⟩⟩
def cx:aJ:=⟨lr,[.v (.st .expr)],λ (x:J)=>⟨(none,[⟨.bool,bj x⟩])⟩⟩
def wL(x:J):Nat->aH:=(λ zb=>if Nat.beq zb 1 then .mk (Nat) (λ k=>k<=x.M.length/\bq bj (x.M.take k)=true) (λ k=>x.M.length - k) [] [0,1,3,5,6,7,8,9,10,11,12,13,14] (λ k=>[(17, .aW ⟨(.int .i64),((k:Int):Int)⟩)]) [2,4,15,16,17,18,19,20,21,22,23,24] (λ k=>[]) [] [] (λ k=>λ _ => .none) else .none)
abbrev eN(n:Nat)(x:J):Prop:=(x.M.length<=140737488355328 ->
 (O ((x.M.length:Int)) ->
 ((∃ k1:Nat,((k1<=x.M.length/\bq bj (x.M.take k1)=true)/\((x.M=x.M/\(((x.M.length:Int))=((x.M.length:Int))/\((0:Int)=(k1:Int)/\True)))/\True)))/\(∀ k1:Nat,((k1<=x.M.length/\bq bj (x.M.take k1)=true) ->
 (((decide ((k1:Int)<((x.M.length:Int))))=true ->
 (aw (k1:Int) x.M.length/\(cz (ag (x.M.getD k1 zE))<n/\(((!(bj (ag (x.M.getD k1 zE))))=true ->
 false=(bj x))/\((!(bj (ag (x.M.getD k1 zE))))=false ->
 (O ((k1:Int)+(1:Int))/\(∃ k2:Nat,((k2<=x.M.length/\bq bj (x.M.take k2)=true)/\(x.M.length - k2<x.M.length - k1/\((x.M=x.M/\(((x.M.length:Int))=((x.M.length:Int))/\(((k1:Int)+(1:Int))=(k2:Int)/\True)))/\True))))))))))/\((decide ((k1:Int)<((x.M.length:Int))))=false ->
 true=(bj x))))))))
theorem Hm(n:Nat)(x:J):ck (aL [gV n] [] [] [1]) (au fL) (wL x) 0 (bg (aL [gV n] [] [] [1]) fL λ r=>bp r [⟨.bool,bj x⟩]) (aD fL [.val ⟨(.st .expr),x⟩]) =
 ((O x.ak ->
 (((decide (x.ak=(1:Int)))=true ->
 (((decide (x.ak=(1:Int)))=true ->
 (eN n x))/\((decide (x.ak=(1:Int)))=false ->
 false=(bj x))))/\((decide (x.ak=(1:Int)))=false ->
 (((decide (x.ak=(2:Int)))=true ->
 (((decide (x.ak=(2:Int)))=true ->
 (eN n x))/\((decide (x.ak=(2:Int)))=false ->
 false=(bj x))))/\((decide (x.ak=(2:Int)))=false ->
 (((decide (x.ak=(3:Int)))=true ->
 (((decide (x.ak=(3:Int)))=true ->
 (eN n x))/\((decide (x.ak=(3:Int)))=false ->
 false=(bj x))))/\((decide (x.ak=(3:Int)))=false ->
 (((decide (x.ak=(5:Int)))=true ->
 (((decide (x.ak=(5:Int)))=true ->
 (eN n x))/\((decide (x.ak=(5:Int)))=false ->
 false=(bj x))))/\((decide (x.ak=(5:Int)))=false ->
 (((decide (x.ak=(6:Int)))=true ->
 (((decide (x.ak=(6:Int)))=true ->
 (eN n x))/\((decide (x.ak=(6:Int)))=false ->
 false=(bj x))))/\((decide (x.ak=(6:Int)))=false ->
 (((decide (x.ak=(7:Int)))=true ->
 (eN n x))/\((decide (x.ak=(7:Int)))=false ->
 false=(bj x))))))))))))))):=by kernel_rfl
theorem GS(n:Nat)(hE:aG [gV n]):aJ.Good (gV (n+1)):=by
 refine⟨aA kF rfl (by decide),?_⟩
 show ∀ (x:J),(cz x<n+1)->bh prog lr [.val ⟨(.st .expr),x⟩] (·=[⟨.bool,bj x⟩])
 intro x hp
 refine aM (wr:=[]) (cl:=[]) (ro:=[1]) hE kF C3 (wL x) ?_
 rewrite [Hm n x]
 have f0:=dV x
 have f1:=all_zero bj x.M
 refine λ _=>⟨λ _=>⟨λ _ _ _=>⟨⟨0,?_,⟨rfl,rfl,?_,trivial⟩,trivial⟩,λ k1 _=>have a6j:=dy bj zE x.M k1;have a6k:=dW bj zE x.M k1;have a6l:=eI bj x.M k1;have a7Z:=cq zE x.M k1;⟨λ _=>⟨?_,?_,λ _=>?_,λ _=>⟨?_,k1+1,?_,?_,⟨rfl,rfl,?_,trivial⟩,trivial⟩⟩,λ _=>?_⟩⟩,λ _=>?_⟩,λ _=>⟨λ _=>⟨λ _ _ _=>⟨⟨0,?_,⟨rfl,rfl,?_,trivial⟩,trivial⟩,λ k1 _=>have a8a:=dy bj zE x.M k1;have a8b:=dW bj zE x.M k1;have a8c:=eI bj x.M k1;have a8d:=cq zE x.M k1;⟨λ _=>⟨?_,?_,λ _=>?_,λ _=>⟨?_,k1+1,?_,?_,⟨rfl,rfl,?_,trivial⟩,trivial⟩⟩,λ _=>?_⟩⟩,λ _=>?_⟩,λ _=>⟨λ _=>⟨λ _ _ _=>⟨⟨0,?_,⟨rfl,rfl,?_,trivial⟩,trivial⟩,λ k1 _=>have a1W:=dy bj zE x.M k1;have a1X:=dW bj zE x.M k1;have a1Y:=eI bj x.M k1;have a4v:=cq zE x.M k1;⟨λ _=>⟨?_,?_,λ _=>?_,λ _=>⟨?_,k1+1,?_,?_,⟨rfl,rfl,?_,trivial⟩,trivial⟩⟩,λ _=>?_⟩⟩,λ _=>?_⟩,λ _=>⟨λ _=>⟨λ _ _ _=>⟨⟨0,?_,⟨rfl,rfl,?_,trivial⟩,trivial⟩,λ k1 _=>have a8e:=dy bj zE x.M k1;have a8f:=dW bj zE x.M k1;have a8g:=eI bj x.M k1;have a8h:=cq zE x.M k1;⟨λ _=>⟨?_,?_,λ _=>?_,λ _=>⟨?_,k1+1,?_,?_,⟨rfl,rfl,?_,trivial⟩,trivial⟩⟩,λ _=>?_⟩⟩,λ _=>?_⟩,λ _=>⟨λ _=>⟨λ _ _ _=>⟨⟨0,?_,⟨rfl,rfl,?_,trivial⟩,trivial⟩,λ k1 _=>have a4w:=dy bj zE x.M k1;have a4x:=dW bj zE x.M k1;have a4y:=eI bj x.M k1;have a6s:=cq zE x.M k1;⟨λ _=>⟨?_,?_,λ _=>?_,λ _=>⟨?_,k1+1,?_,?_,⟨rfl,rfl,?_,trivial⟩,trivial⟩⟩,λ _=>?_⟩⟩,λ _=>?_⟩,λ _=>⟨λ _ _ _=>⟨⟨0,?_,⟨rfl,rfl,?_,trivial⟩,trivial⟩,λ k1 _=>have a4w:=dy bj zE x.M k1;have a4x:=dW bj zE x.M k1;have a4y:=eI bj x.M k1;have a6s:=cq zE x.M k1;⟨λ _=>⟨?_,?_,λ _=>?_,λ _=>⟨?_,k1+1,?_,?_,⟨rfl,rfl,?_,trivial⟩,trivial⟩⟩,λ _=>?_⟩⟩,λ _=>?_⟩⟩⟩⟩⟩⟩
 all_goals try and_intros
 all_goals try (first|with_reducible rfl|with_reducible assumption)
 all_goals try simp only[J.eta,ae.eta,aj.eta,aP,bM,cn] at *
 all_goals try rw[N4 x]
 all_goals first|rfl|trivial|(simp only[a8p,a8q,aw,O] at *;omega)|(simp_all [J6];done)|(simp_all [J6,aw,O];omega)
theorem PI :∀ n,aG [gV n]
 | 0=>⟨⟨aA kF rfl (by decide),λ _ h=>absurd h (a9p _)⟩,trivial⟩
 | n+1=>by
  have ih:=PI  n
  exact⟨GS n ⟨ih.1,trivial⟩,trivial⟩
theorem iL :aJ.Good cx :=
 ⟨aA kF rfl (by decide),λ x hp=>(PI  (cz x+1)).1.2 x (a9h _)⟩
def gj(n:Nat):aJ:=⟨gW,[.r (.st .expr)],λ (x:J)=>⟨(some (cz x<n),[⟨.bool,bj x⟩])⟩⟩
def ea:aJ:=⟨gW,[.r (.st .expr)],λ (x:J)=>⟨(none,[⟨.bool,bj x⟩])⟩⟩
def vq(x:J):Nat->aH:=(λ zb=>if Nat.beq zb 0 then .mk (Nat) (λ k=>k<=x.M.length/\bq bj (x.M.take k)=true) (λ k=>x.M.length - k) [] [1,4,5,6,7,8,9,10,11,12,13,14,15,16] (λ k=>[(3, .aW ⟨(.int .i64),((k:Int):Int)⟩)]) [0,2,3,17,18,19,20,21,22,23,24,25,26,27,28,29,30,31,32,33] (λ k=>[]) [] [] (λ k=>λ _ => .none) else .none)
abbrev sL(n:Nat)(x:J):Prop:=((∃ k1:Nat,((k1<=x.M.length/\bq bj (x.M.take k1)=true)/\((x=x/\((0:Int)=(k1:Int)/\True))/\True)))/\(∀ k1:Nat,((k1<=x.M.length/\bq bj (x.M.take k1)=true) ->
 (x.M.length<=140737488355328 ->
 (O ((x.M.length:Int)) ->
 (((decide ((k1:Int)<((x.M.length:Int))))=true ->
 (x.M.length<=140737488355328 ->
 (aw (k1:Int) x.M.length/\(cz (x.M.getD k1 zE)<n/\(((!(bj (x.M.getD k1 zE)))=true ->
 false=(bj x))/\((!(bj (x.M.getD k1 zE)))=false ->
 (O ((k1:Int)+(1:Int))/\(∃ k2:Nat,((k2<=x.M.length/\bq bj (x.M.take k2)=true)/\(x.M.length - k2<x.M.length - k1/\((x=x/\(((k1:Int)+(1:Int))=(k2:Int)/\True))/\True)))))))))))/\((decide ((k1:Int)<((x.M.length:Int))))=false ->
 true=(bj x))))))))
theorem Fu(n:Nat)(x:J):ck (aL [gj n,cV]) (au fi) (vq x) 0 (bg (aL [gj n,cV]) fi λ r=>bp r [⟨.bool,bj x⟩]) (aD fi [.ref ⟨(.st .expr),x⟩]) =
 ((O x.ak ->
 ((((!(decide ((1:Int)<=x.ak/\x.ak<=(7:Int))))=false) ->
 (O x.ak ->
 (((decide (x.ak=(4:Int)))=true ->
 false=(bj x))/\((decide (x.ak=(4:Int)))=false ->
 (sL n x)))))/\(((!(decide ((1:Int)<=x.ak/\x.ak<=(7:Int))))=(!false)) ->
 ((true=true ->
 false=(bj x))/\(true=false ->
 (sL n x))))))):=by kernel_rfl
theorem Fj(n:Nat)(hE:aG [gj n,cV]):aJ.Good (gj (n+1)):=by
 refine⟨aA jM rfl (by decide),?_⟩
 show ∀ (x:J),(cz x<n+1)->bh prog gW [.ref ⟨(.st .expr),x⟩] (·=[⟨.bool,bj x⟩])
 intro x hp
 refine aM (wr:=[]) (cl:=[]) (ro:=[]) hE jM BW (vq x) ?_
 rewrite [Fu n x]
 have f0:=dV x
 have f1:=all_zero bj x.M
 refine λ _=>⟨λ _ _=>⟨λ _=>?_,λ _=>⟨⟨0,?_,⟨rfl,?_,trivial⟩,trivial⟩,λ k1 _=>have a6f:=dy bj zE x.M k1;have a6g:=dW bj zE x.M k1;have a6h:=eI bj x.M k1;have a6i:=cq zE x.M k1;λ _ _=>⟨λ _ _=>⟨?_,?_,λ _=>?_,λ _=>⟨?_,k1+1,?_,?_,⟨rfl,?_,trivial⟩,trivial⟩⟩,λ _=>?_⟩⟩⟩,λ _=>⟨λ _=>?_,λ _=>⟨⟨0,?_,⟨rfl,?_,trivial⟩,trivial⟩,λ k1 _=>have ZX:=dy bj zE x.M k1;have ZY:=dW bj zE x.M k1;have a6e:=eI bj x.M k1;have a7Y:=cq zE x.M k1;λ _ _=>⟨λ _ _=>⟨?_,?_,λ _=>?_,λ _=>⟨?_,k1+1,?_,?_,⟨rfl,?_,trivial⟩,trivial⟩⟩,λ _=>?_⟩⟩⟩⟩
 all_goals try and_intros
 all_goals try rw[N4 x]
 all_goals first|rfl|trivial|(simp only[a8p,a8q,aw,O] at *;omega)|(simp_all [J6];done)|(simp_all [J6,aw,O];omega)
theorem PJ :∀ n,aG [gj n]
 | 0=>⟨⟨aA jM rfl (by decide),λ _ h=>absurd h (a9p _)⟩,trivial⟩
 | n+1=>by
  have ih:=PJ  n
  exact⟨Fj n ⟨ih.1,l5,trivial⟩,trivial⟩
theorem l6 :aJ.Good ea :=
 ⟨aA jM rfl (by decide),λ x hp=>(PJ  (cz x+1)).1.2 x (a9h _)⟩
def rr(t a:Int)(x:J):Bool:=decide (cN x.ak=(x.M.length:Int)) &&
 (if x.ak=3 then decide (0<=x.aI/\x.aI<=t) else if x.ak=4 then decide (0<=x.aI/\x.aI<=a) else decide (x.aI=0)) &&
 (!decide (x.ak=5)||bj (x.M.getD 0 ⟨0,0,[]⟩))
mutual
def aZ(t a:Int):J->Bool
 | ⟨k,n,ks⟩=>rr t a ⟨k,n,ks⟩&&pU t a ks
def pU(t a:Int):List J->Bool
 | []=>true
 | k::ks=>aZ t a k&&pU t a ks
end
theorem T1(t a:Int):∀ xs,pU t a xs=bq (aZ t a) xs
 | []=>rfl
 | x::xs=>by rw[pU,bq,T1 t a xs]
theorem kB(t a:Int)(x:J):aZ t a x=(rr t a x&&bq (aZ t a) x.M):=by
 cases x;simp[aZ,T1]
def aN(n:Int):Int:=IntKind.wrap .i64 (n - 1)
theorem DL(n:Int)(h : -9223372036854775807<=n/\n<=9223372036854775807):aN n=n - 1:=by
 simp[aN,IntKind.wrap,IntKind.signed,IntKind.bits];omega
def my(n:Nat):aJ:=⟨re,[.r (.st .expr), .v (.int .i64)],λ (x:J) (left:Int)=>⟨(some (cz x<n/\0<=left/\left<=1048576),[⟨(.int .i64),bT (aF x) left⟩])⟩⟩
def qU:aJ:=⟨re,[.r (.st .expr), .v (.int .i64)],λ (x:J) (left:Int)=>⟨(some (0<=left/\left<=1048576),[⟨(.int .i64),bT (aF x) left⟩])⟩⟩
def Ey(x:J)(left:Int):Nat->aH:=(λ zb=>if Nat.beq zb 0 then .mk (Nat) (λ k=>k<=x.M.length) (λ k=>x.M.length - k) [] [2,3,6,7] (λ k=>[(5, .aW ⟨(.int .i64),((k:Int):Int)⟩),(1, .aW ⟨(.int .i64),(bT (1+bF aF (x.M.take k)) left:Int)⟩)]) [0,1,4,5,8,9,10,11,12,13,14,15,16,17,18,19,20,21,22,23,24,25,26,27,28,29] (λ k=>[]) [] [] (λ k=>λ _ => .none) else .none)
abbrev z7(n:Nat)(x:J)(left:Int)(k1:Nat):Prop:=(x.M.length<=140737488355328 ->
 (aw (k1:Int) x.M.length/\((cz (x.M.getD k1 zE)<n/\0<=(bT (1+bF aF (x.M.take k1)) left)/\(bT (1+bF aF (x.M.take k1)) left)<=1048576)/\(O (bT (aF (x.M.getD k1 zE)) (bT (1+bF aF (x.M.take k1)) left)) ->
 (O ((k1:Int)+(1:Int))/\(∃ k2:Nat,(k2<=x.M.length/\(x.M.length - k2<x.M.length - k1/\((x=x/\((bT (aF (x.M.getD k1 zE)) (bT (1+bF aF (x.M.take k1)) left))=(bT (1+bF aF (x.M.take k2)) left)/\((0:Int)=(0:Int)/\(((k1:Int)+(1:Int))=(k2:Int)/\True))))/\True)))))))))
theorem Pr(n:Nat)(x:J)(left:Int):ck (aL [my n]) (au ki) (Ey x left) 0 (bg (aL [my n]) ki λ r=>bp r [⟨(.int .i64),bT (aF x) left⟩]) (aD ki [.ref ⟨(.st .expr),x⟩, .val ⟨(.int .i64),left⟩]) =
 ((O (left - (1:Int))/\((∃ k1:Nat,(k1<=x.M.length/\((x=x/\((left - (1:Int))=(bT (1+bF aF (x.M.take k1)) left)/\((0:Int)=(0:Int)/\((0:Int)=(k1:Int)/\True))))/\True)))/\(∀ k1:Nat,(k1<=x.M.length ->
 (x.M.length<=140737488355328 ->
 (O ((x.M.length:Int)) ->
 (((decide ((k1:Int)<((x.M.length:Int))))=true ->
 (((decide ((0:Int)<=(bT (1+bF aF (x.M.take k1)) left)))=true ->
 (z7 n x left k1))/\((decide ((0:Int)<=(bT (1+bF aF (x.M.take k1)) left)))=false ->
 (bT (1+bF aF (x.M.take k1)) left)=(bT (aF x) left))))/\((decide ((k1:Int)<((x.M.length:Int))))=(!true) ->
 ((false=true ->
 (z7 n x left k1))/\(false=false ->
 (bT (1+bF aF (x.M.take k1)) left)=(bT (aF x) left)))))))))))):=by kernel_rfl
theorem OQ(n:Nat)(hE:aG [my n]):aJ.Good (my (n+1)):=by
 refine⟨aA pB rfl (by decide),?_⟩
 show ∀ (x:J) (left:Int),(cz x<n+1/\0<=left/\left<=1048576)->bh prog re [.ref ⟨(.st .expr),x⟩, .val ⟨(.int .i64),left⟩] (·=[⟨(.int .i64),bT (aF x) left⟩])
 intro x left hp
 refine aM (wr:=[]) (cl:=[]) (ro:=[]) hE pB JT (Ey x left) ?_
 rewrite [Pr n x left]
 have f0:=dV x
 have f1:=xp aF x.M
 have f2:=eF (1+bF aF (x.M.take 0)) left
 refine⟨?_,⟨0,?_,⟨rfl,?_,rfl,?_,trivial⟩,trivial⟩,λ k1 _=>have a1S:=oj aF zE x.M k1;have a1T:=dG aF x.M k1;have a1U:=dG aF x.M (k1+1);have a4o:=tp aF x.M k1;have a4p:=cq zE x.M k1;have a6d:=eF (1+bF aF (x.M.take k1)) left;have a7T:=eF (1+bF aF (x.M.take (k1+1))) left;have a7U:=eF (aF (x.M.getD k1 zE)) (bT (1+bF aF (x.M.take k1)) left);have a7V:=eF (1+bF aF x.M) left;λ _ _=>⟨λ _=>⟨λ _ _=>⟨?_,?_,λ _=>⟨?_,k1+1,?_,?_,⟨rfl,?_,rfl,?_,trivial⟩,trivial⟩⟩,λ _=>?_⟩,λ _=>⟨λ _ _=>⟨?_,?_,λ _=>⟨?_,k1+1,?_,?_,⟨rfl,?_,rfl,?_,trivial⟩,trivial⟩⟩,λ _=>?_⟩⟩⟩
 all_goals try and_intros
 all_goals try rw[yD x]
 all_goals first|rfl|trivial|omega|(simp only[a8p,a8q,aw,O,cr,cW,cH,br] at *;omega)|(simp[aw,O] at *;omega)|grind
theorem PM :∀ n,aG [my n]
 | 0=>⟨⟨aA pB rfl (by decide),λ _ _ h=>absurd h.1 (a9p _)⟩,trivial⟩
 | n+1=>by
  have ih:=PM  n
  exact⟨OQ n ⟨ih.1,trivial⟩,trivial⟩
theorem Kq :aJ.Good qU :=
 ⟨aA pB rfl (by decide),λ x left hp=>(PM  (cz x+1)).1.2 x left (⟨a9h _,hp⟩)⟩
def kO(n:Nat):aJ:=⟨pS,[.r (.st .expr)],λ (x:J)=>⟨(some (cz x<n/\bJ x<=1048576),[⟨(.int .i64),(bJ x:Int)⟩])⟩⟩
def pP:aJ:=⟨pS,[.r (.st .expr)],λ (x:J)=>⟨(some (bJ x<=1048576),[⟨(.int .i64),(bJ x:Int)⟩])⟩⟩
def Cz(x:J):Nat->aH:=(λ zb=>if Nat.beq zb 0 then .mk (Nat) (λ k=>k<=x.M.length) (λ k=>x.M.length - k) [] [1] (λ k=>[(4, .aW ⟨(.int .i64),((k:Int):Int)⟩),(3, .aW ⟨(.int .i64),((iR bJ (x.M.take k):Int):Int)⟩)]) [0,2,3,4,5,6,7,8,9,10,11,12,13,14,15,16,17,18,19,20,21,22,23,24] (λ k=>[]) [] [] (λ k=>λ _ => .none) else .none)
theorem NH(n:Nat)(x:J):ck (aL [kO n,gT]) (au jn) (Cz x) 0 (bg (aL [kO n,gT]) jn λ r=>bp r [⟨(.int .i64),(bJ x:Int)⟩]) (aD jn [.ref ⟨(.st .expr),x⟩]) =
 (((∃ k1:Nat,(k1<=x.M.length/\((x=x/\((0:Int)=(0:Int)/\((0:Int)=(iR bJ (x.M.take k1):Int)/\((0:Int)=(k1:Int)/\True))))/\True)))/\(∀ k1:Nat,(k1<=x.M.length ->
 (x.M.length<=140737488355328 ->
 (O ((x.M.length:Int)) ->
 (((decide ((k1:Int)<((x.M.length:Int))))=true ->
 (x.M.length<=140737488355328 ->
 (aw (k1:Int) x.M.length/\((cz (x.M.getD k1 zE)<n/\bJ (x.M.getD k1 zE)<=1048576)/\(O ((bJ (x.M.getD k1 zE):Int)) ->
 (O (max (iR bJ (x.M.take k1):Int) ((bJ (x.M.getD k1 zE):Int))) ->
 (O ((k1:Int)+(1:Int))/\(∃ k2:Nat,(k2<=x.M.length/\(x.M.length - k2<x.M.length - k1/\((x=x/\((0:Int)=(0:Int)/\((max (iR bJ (x.M.take k1):Int) ((bJ (x.M.getD k1 zE):Int)))=(iR bJ (x.M.take k2):Int)/\(((k1:Int)+(1:Int))=(k2:Int)/\True))))/\True)))))))))))/\((decide ((k1:Int)<((x.M.length:Int))))=false ->
 (O ((iR bJ (x.M.take k1):Int)+(1:Int))/\((iR bJ (x.M.take k1):Int)+(1:Int))=(bJ x:Int)))))))))):=by kernel_rfl
theorem MZ(n:Nat)(hE:aG [kO n,gT]):aJ.Good (kO (n+1)):=by
 refine⟨aA oK rfl (by decide),?_⟩
 show ∀ (x:J),(cz x<n+1/\bJ x<=1048576)->bh prog pS [.ref ⟨(.st .expr),x⟩] (·=[⟨(.int .i64),(bJ x:Int)⟩])
 intro x hp
 refine aM (wr:=[]) (cl:=[]) (ro:=[]) hE oK H5 (Cz x) ?_
 rewrite [NH n x]
 rw[jB x] at hp
 have f0:=dV x
 have f1:=S7 bJ x.M
 refine⟨⟨0,?_,⟨rfl,rfl,?_,?_,trivial⟩,trivial⟩,λ k1 _=>have a1S:=tW bJ zE x.M k1;have a1T:=ld bJ x.M k1;have a1U:=ld bJ x.M (k1+1);have a4o:=CH bJ x.M k1;have a4p:=cq zE x.M k1;have a6d:=tV bJ zE x.M k1;λ _ _=>⟨λ _ _=>⟨?_,?_,λ _ _=>⟨?_,k1+1,?_,?_,⟨rfl,rfl,?_,?_,trivial⟩,trivial⟩⟩,λ _=>⟨?_,?_⟩⟩⟩
 all_goals try and_intros
 all_goals try rw[jB x]
 all_goals first|rfl|trivial|omega|(simp only[a8p,a8q,aw,O,cr,cW,cH,br] at *;omega)|(simp[aw,O] at *;omega)|grind
theorem Ls :∀ n,aG [kO n]
 | 0=>⟨⟨aA oK rfl (by decide),λ _ h=>absurd h.1 (a9p _)⟩,trivial⟩
 | n+1=>by
  have ih:=Ls  n
  exact⟨MZ n ⟨ih.1,zR,trivial⟩,trivial⟩
theorem Io :aJ.Good pP :=
 ⟨aA oK rfl (by decide),λ x hp=>(Ls  (cz x+1)).1.2 x (⟨a9h _,hp⟩)⟩
def mB(n:Nat):aJ:=⟨ri,[.v (.st .sig), .r (.st .expr)],λ (gg:aO) (x:J)=>⟨(some (cz x<n),[⟨.bool,aZ (aN gg.aq) (aN gg.bd) x⟩])⟩⟩
def qW:aJ:=⟨ri,[.v (.st .sig), .r (.st .expr)],λ (gg:aO) (x:J)=>⟨(none,[⟨.bool,aZ (aN gg.aq) (aN gg.bd) x⟩])⟩⟩
def EB(gg:aO)(x:J):Nat->aH:=(λ zb=>if Nat.beq zb 1 then .mk (Nat) (λ k=>k<=x.M.length/\bq (aZ (aN gg.aq) (aN gg.bd)) (x.M.take k)=true) (λ k=>x.M.length - k) [] [0,3,6,7,8,9,10,11,12,13,14,15,16,17,18,19,20,21,22,23,24,25,26,27,28,29,30,31,32,33,34,35,36,37,38,39,40,41,42,43,44,45,46,47,48,49,50,51,52,53,54,55,56,57,58,59,60,61] (λ k=>[(5, .aW ⟨(.int .i64),((k:Int):Int)⟩)]) [1,2,4,5,62,63,64,65,66,67,68,69,70,71,72,73,74,75,76,77,78,79] (λ k=>[]) [] [] (λ k=>λ _ => .none) else .none)
abbrev sN(n:Nat)(gg:aO)(x:J):Prop:=((∃ k1:Nat,((k1<=x.M.length/\bq (aZ (aN gg.aq) (aN gg.bd)) (x.M.take k1)=true)/\((x=x/\(gg=gg/\((0:Int)=(k1:Int)/\True)))/\True)))/\(∀ k1:Nat,((k1<=x.M.length/\bq (aZ (aN gg.aq) (aN gg.bd)) (x.M.take k1)=true) ->
 (x.M.length<=140737488355328 ->
 (O ((x.M.length:Int)) ->
 (((decide ((k1:Int)<((x.M.length:Int))))=true ->
 (aw (k1:Int) x.M.length/\(x.M.length<=140737488355328 ->
 (cz (x.M.getD k1 zE)<n/\(((!(aZ (aN gg.aq) (aN gg.bd) (x.M.getD k1 zE)))=true ->
 false=(aZ (aN gg.aq) (aN gg.bd) x))/\((!(aZ (aN gg.aq) (aN gg.bd) (x.M.getD k1 zE)))=false ->
 (O ((k1:Int)+(1:Int))/\(∃ k2:Nat,((k2<=x.M.length/\bq (aZ (aN gg.aq) (aN gg.bd)) (x.M.take k2)=true)/\(x.M.length - k2<x.M.length - k1/\((x=x/\(gg=gg/\(((k1:Int)+(1:Int))=(k2:Int)/\True)))/\True)))))))))))/\((decide ((k1:Int)<((x.M.length:Int))))=false ->
 true=(aZ (aN gg.aq) (aN gg.bd) x))))))))
theorem Pu(n:Nat)(gg:aO)(x:J):ck (aL [mB n,nP,cV,ea] [29,39] [] [2]) (au kp) (EB gg x) 0 (bg (aL [mB n,nP,cV,ea] [29,39] [] [2]) kp λ r=>bp r [⟨.bool,aZ (aN gg.aq) (aN gg.bd) x⟩]) (aD kp [.val ⟨(.st .sig),gg⟩, .ref ⟨(.st .expr),x⟩]) =
 ((x.M.length<=140737488355328 ->
 (O ((x.M.length:Int)) ->
 (O x.ak ->
 (O (cN x.ak) ->
 (((!(decide (((x.M.length:Int))=(cN x.ak))))=true ->
 false=(aZ (aN gg.aq) (aN gg.bd) x))/\((!(decide (((x.M.length:Int))=(cN x.ak))))=false ->
 (O x.ak ->
 (((decide (x.ak=(3:Int)))=true ->
 (O x.aI ->
 (O gg.aq ->
 ((decide ((0:Int)<=x.aI/\x.aI<=(IntKind.wrap .i64 (gg.aq - (1:Int)))))=(aZ (aN gg.aq) (aN gg.bd) x)))))/\((decide (x.ak=(3:Int)))=false ->
 (((decide (x.ak=(4:Int)))=true ->
 (O x.aI ->
 (O gg.bd ->
 ((decide ((0:Int)<=x.aI/\x.aI<=(IntKind.wrap .i64 (gg.bd - (1:Int)))))=(aZ (aN gg.aq) (aN gg.bd) x)))))/\((decide (x.ak=(4:Int)))=false ->
 (O x.aI ->
 (((!(decide (x.aI=(0:Int))))=false ->
 (O x.ak ->
 (((decide (x.ak=(5:Int)))=true ->
 (x.M.length<=140737488355328 ->
 (aw (0:Int) x.M.length/\(((!(bj (x.M.getD 0 zE)))=true ->
 false=(aZ (aN gg.aq) (aN gg.bd) x))/\((!(bj (x.M.getD 0 zE)))=false ->
 (sN n gg x))))))/\((decide (x.ak=(5:Int)))=(!true) ->
 ((false=true ->
 false=(aZ (aN gg.aq) (aN gg.bd) x))/\(false=false ->
 (sN n gg x)))))))/\((!(decide (x.aI=(0:Int))))=(!false) ->
 ((true=true ->
 false=(aZ (aN gg.aq) (aN gg.bd) x))/\(true=false ->
 (sN n gg x)))))))))))))))))):=by kernel_rfl
theorem OU(n:Nat)(hE:aG [mB n,nP,cV,ea]):aJ.Good (mB (n+1)):=by
 refine⟨aA pE rfl (by decide),?_⟩
 show ∀ (gg:aO) (x:J),(cz x<n+1)->bh prog ri [.val ⟨(.st .sig),gg⟩, .ref ⟨(.st .expr),x⟩] (·=[⟨.bool,aZ (aN gg.aq) (aN gg.bd) x⟩])
 intro gg x hp
 refine aM (wr:=[29,39]) (cl:=[]) (ro:=[2]) hE pE JW (EB gg x) ?_
 rewrite [Pu n gg x]
 have f0:=dV x
 have f1:=all_zero (aZ (aN gg.aq) (aN gg.bd)) x.M
 refine λ _ _ _ _=>⟨λ _=>?_,λ _ _=>⟨λ _ _ _=>?_,λ _=>⟨λ _ _ _=>?_,λ _ _=>⟨λ _ _=>⟨λ _ _=>⟨?_,λ _=>?_,λ _=>⟨⟨0,?_,⟨rfl,rfl,?_,trivial⟩,trivial⟩,λ k1 _=>have a7M:=dy (aZ (aN gg.aq) (aN gg.bd)) zE x.M k1;have a7N:=dW (aZ (aN gg.aq) (aN gg.bd)) zE x.M k1;have a7O:=eI (aZ (aN gg.aq) (aN gg.bd)) x.M k1;have a7P:=cq zE x.M k1;λ _ _=>⟨λ _=>⟨?_,λ _=>⟨?_,λ _=>?_,λ _=>⟨?_,k1+1,?_,?_,⟨rfl,rfl,?_,trivial⟩,trivial⟩⟩⟩,λ _=>?_⟩⟩⟩,λ _=>⟨λ _=>?_,λ _=>⟨⟨0,?_,⟨rfl,rfl,?_,trivial⟩,trivial⟩,λ k1 _=>have a7I:=dy (aZ (aN gg.aq) (aN gg.bd)) zE x.M k1;have a7J:=dW (aZ (aN gg.aq) (aN gg.bd)) zE x.M k1;have a7K:=eI (aZ (aN gg.aq) (aN gg.bd)) x.M k1;have a7L:=cq zE x.M k1;λ _ _=>⟨λ _=>⟨?_,λ _=>⟨?_,λ _=>?_,λ _=>⟨?_,k1+1,?_,?_,⟨rfl,rfl,?_,trivial⟩,trivial⟩⟩⟩,λ _=>?_⟩⟩⟩⟩,λ _=>⟨λ _=>?_,λ _=>⟨⟨0,?_,⟨rfl,rfl,?_,trivial⟩,trivial⟩,λ k1 _=>have YH:=dy (aZ (aN gg.aq) (aN gg.bd)) zE x.M k1;have YI:=dW (aZ (aN gg.aq) (aN gg.bd)) zE x.M k1;have YJ:=eI (aZ (aN gg.aq) (aN gg.bd)) x.M k1;have a1V:=cq zE x.M k1;λ _ _=>⟨λ _=>⟨?_,λ _=>⟨?_,λ _=>?_,λ _=>⟨?_,k1+1,?_,?_,⟨rfl,rfl,?_,trivial⟩,trivial⟩⟩⟩,λ _=>?_⟩⟩⟩⟩⟩⟩⟩
 all_goals try and_intros
 all_goals try rw[kB _ _ x]
 all_goals first|rfl|trivial|(simp only[decide_eq_true_eq,decide_eq_false_iff_not,aw,O] at *;omega)|(simp_all [rr,aN];done)|(simp_all [rr,aN,aw,O];omega)|grind [rr,aN,cN,aw,O]
theorem PQ :∀ n,aG [mB n]
 | 0=>⟨⟨aA pE rfl (by decide),λ _ _ h=>absurd h (a9p _)⟩,trivial⟩
 | n+1=>by
  have ih:=PQ  n
  exact⟨OU n ⟨ih.1,Kp,l5,l6,trivial⟩,trivial⟩
theorem Ks :aJ.Good qW :=
 ⟨aA pE rfl (by decide),λ gg x hp=>(PQ  (cz x+1)).1.2 gg x (a9h _)⟩
end
end Go.Proofs.YtmjfpcajohhbeaaGreatDoor

set_option maxRecDepth 4000
set_option maxHeartbeats 4000000
namespace Go.Proofs.YtmjfpcajohhbeaaGreatDoor
noncomputable section
def bK(gg:aO):Bool:=decide (0<=gg.aq/\gg.aq<=3)&&decide (0<=gg.bd/\gg.bd<=4)
def yK(gg:aO)(x:J)(bu depth:Int):Bool:=aZ (aN gg.aq) (aN gg.bd) x&&decide ((aF x:Int)<=bu)&&decide ((bJ x:Int)<=depth)
def DN(gg:aO)(x:J)(bu depth:Int):Int:=bif yK gg x bu depth then bu - aF x else 0
def ft:aJ:=⟨tX,[.v (.st .sig)],λ (gg:aO)=>⟨(none,[⟨.bool,bK gg⟩])⟩⟩
def Cr(gg:aO):Nat->aH:=λ _ => .none
theorem Ny(gg:aO):ck (aL [cp] [] [] [1]) (au iZ) (Cr gg) 0 (bg (aL [cp] [] [] [1]) iZ λ r=>bp r [⟨.bool,bK gg⟩]) (aD iZ [.val ⟨(.st .sig),gg⟩]) =
 ((O gg.aq ->
 ((((decide ((0:Int)<=gg.aq/\gg.aq<=(3:Int)))=true) ->
 (O gg.bd ->
 ((decide ((0:Int)<=gg.bd/\gg.bd<=(4:Int)))=(bK gg))))/\(((decide ((0:Int)<=gg.aq/\gg.aq<=(3:Int)))=(!true)) ->
 false=(bK gg))))):=by kernel_rfl
theorem MP(hE:aG [cp]):aJ.Good ft:=by
 refine⟨aA zr rfl (by decide),?_⟩
 show ∀ (gg:aO),True->bh prog tX [.val ⟨(.st .sig),gg⟩] (·=[⟨.bool,bK gg⟩])
 intro gg _
 refine aM (wr:=[]) (cl:=[]) (ro:=[1]) hE zr HR (Cr gg) ?_
 rewrite [Ny gg]
 refine λ _=>⟨λ _ _=>?_,λ _=>?_⟩
 all_goals try and_intros
 all_goals first|rfl|trivial|(simp_all [bK];done)|(simp_all [bK];omega)
theorem wH:aJ.Good ft:=MP ⟨ie,trivial⟩
def eb:aJ:=⟨yy,[.v (.st .sig)],λ (gg:aO)=>⟨(none,[⟨.bool,bK gg⟩])⟩⟩
def GA(gg:aO):Nat->aH:=λ _ => .none
theorem Rf(gg:aO):ck (aL [cV] [] [] [1]) (au lU) (GA gg) 0 (bg (aL [cV] [] [] [1]) lU λ r=>bp r [⟨.bool,bK gg⟩]) (aD lU [.val ⟨(.st .sig),gg⟩]) =
 ((O gg.aq ->
 ((((decide ((0:Int)<=gg.aq/\gg.aq<=(3:Int)))=true) ->
 (O gg.bd ->
 ((decide ((0:Int)<=gg.bd/\gg.bd<=(4:Int)))=(bK gg))))/\(((decide ((0:Int)<=gg.aq/\gg.aq<=(3:Int)))=(!true)) ->
 false=(bK gg))))):=by kernel_rfl
theorem QZ(hE:aG [cV]):aJ.Good eb:=by
 refine⟨aA D8 rfl (by decide),?_⟩
 show ∀ (gg:aO),True->bh prog yy [.val ⟨(.st .sig),gg⟩] (·=[⟨.bool,bK gg⟩])
 intro gg _
 refine aM (wr:=[]) (cl:=[]) (ro:=[1]) hE D8 LP (GA gg) ?_
 rewrite [Rf gg]
 refine λ _=>⟨λ _ _=>?_,λ _=>?_⟩
 all_goals try and_intros
 all_goals first|rfl|trivial|(simp_all [bK];done)|(simp_all [bK];omega)
theorem sF:aJ.Good eb:=QZ ⟨l5,trivial⟩
end
end Go.Proofs.YtmjfpcajohhbeaaGreatDoor

set_option maxRecDepth 4000
set_option maxHeartbeats 4000000
namespace Go.Proofs.YtmjfpcajohhbeaaGreatDoor
noncomputable section
def GM(t a:Int)(x:J):Bool:=if x.ak=3 then decide (0<=x.aI/\x.aI<=t) else if x.ak=4 then decide (0<=x.aI/\x.aI<=a) else decide (x.aI=0)
theorem xl(t a:Int)(x:J):rr t a x=(decide (cN x.ak=(x.M.length:Int))&&GM t a x&&(!decide (x.ak=5)||bj (x.M.getD 0 ⟨0,0,[]⟩))):=rfl
theorem yL(gg:aO)(x:J)(bu depth:Int) :
  (aZ (aN gg.aq) (aN gg.bd) x=true/\(aF x:Int)<=bu/\(bJ x:Int)<=depth/\yK gg x bu depth=true/\DN gg x bu depth=bu - aF x) \/
  ((aZ (aN gg.aq) (aN gg.bd) x=false\/bu<(aF x:Int)\/depth<(bJ x:Int))/\yK gg x bu depth=false/\DN gg x bu depth=0):=by
 unfold DN yK
 cases aZ (aN gg.aq) (aN gg.bd) x
 .right;simp
 .rcases b2w bu (aF x) with h|h
  .right;simp[h,Int.not_le.2 h]
  .rcases b2w depth (bJ x) with h'|h'
   .right;simp[h',Int.not_le.2 h']
   .left;simp[h,h']
def nW(n:Nat):aJ:=⟨tc,[.v (.st .sig), .v (.st .expr), .v (.int .i64), .v (.int .i64)],λ (gg:aO) (x:J) (bu:Int) (depth:Int)=>⟨(some (cz x<n/\0<=bu/\bu<=1048576/\0<=depth/\depth<=1048576),[⟨(.int .i64),DN gg x bu depth⟩,⟨.bool,yK gg x bu depth⟩])⟩⟩
def sS:aJ:=⟨tc,[.v (.st .sig), .v (.st .expr), .v (.int .i64), .v (.int .i64)],λ (gg:aO) (x:J) (bu:Int) (depth:Int)=>⟨(some (0<=bu/\bu<=1048576/\0<=depth/\depth<=1048576),[⟨(.int .i64),DN gg x bu depth⟩,⟨.bool,yK gg x bu depth⟩])⟩⟩
def Gt(gg:aO)(x:J)(bu:Int)(depth:Int):Nat->aH:=(λ zb=>if Nat.beq zb 100012 then .mk (Unit) (λ u=>cN x.ak=(x.M.length:Int)/\1<=bu/\1<=depth/\GM (aN gg.aq) (aN gg.bd) x=true) (λ u=>0) [] [0,1,6,7,10,14,15,16,17,18,19,20,21,22,23,24,25,26,27,28,29,30,31,32,33,34,35,36,37,38,39,40,41,42,43,44,45,46,47,48,49,50,51] (λ u=>[]) [2,3,4,5,8,9,11,12,13,52,53,54,55,56,57,58,59,60,61,62,63,64,65,66,67,68,69,70,71,72,73,74,75,76,77,78,79,80,81,82,83,84,85] (λ u=>[]) [] [] (λ u=>(λ zb=>if Nat.beq zb 100014 then .mk (Unit) (λ u=>rr (aN gg.aq) (aN gg.bd) x=true/\1<=bu/\1<=depth) (λ u=>0) [] [0,1,6,7,10,14,15,16,17,18,19,20,21,22,23,24,25,26,27,28,29,30,31,32,33,34,35,36,37,38,39,40,41,42,43,44,45,46,47,48,49,50,51,52,53,54,55,56,57,58,59,60,61,62] (λ u=>[]) [2,3,4,5,8,9,11,12,13,63,64,65,66,67,68,69,70,71,72,73,74,75,76,77,78,79,80,81,82,83,84,85] (λ u=>[]) [] [] (λ u=>(λ zb=>if Nat.beq zb 1 then .mk (Nat) (λ k=>k<=x.M.length/\bq (aZ (aN gg.aq) (aN gg.bd)) (x.M.take k)=true/\1+(bF aF (x.M.take k):Int)<=bu/\1+(iR bJ (x.M.take k):Int)<=depth) (λ k=>x.M.length - k) [] [0,1,5,6,7,10,14,15,16,17,18,19,20,21,22,23,24,25,26,27,28,29,30,31,32,33,34,35,36,37,38,39,40,41,42,43,44,45,46,47,48,49,50,51,52,53,54,55,56,57,58,59,60,61,62,63,64,65] (λ k=>[(68, .aW ⟨(.int .i64),((k:Int):Int)⟩),(2, .aW ⟨(.int .i64),(bu - (1+(bF aF (x.M.take k):Int)):Int)⟩)]) [2,3,4,8,9,11,12,13,66,67,68,69,70,71,72,73,74,75,76,77,78,79,80,81,82,83,84,85] (λ k=>[]) [] [] (λ k=>λ _ => .none) else .none)) else .none)) else .none)
abbrev tT(gg:aO)(x:J)(bu:Int)(depth:Int):Prop:=(∃ u1:Unit,((cN x.ak=(x.M.length:Int)/\1<=bu/\1<=depth/\GM (aN gg.aq) (aN gg.bd) x=true)/\((bu=bu/\(depth=depth/\(gg=gg/\(x=x/\True))))/\True)))
abbrev Cm(gg:aO)(x:J)(bu:Int)(depth:Int):Prop:=(∃ u2:Unit,((rr (aN gg.aq) (aN gg.bd) x=true/\1<=bu/\1<=depth)/\((bu=bu/\(depth=depth/\(gg=gg/\(x=x/\True))))/\True)))
abbrev Cn(n:Nat)(gg:aO)(x:J)(bu:Int)(depth:Int):Prop:=((O x.ak ->
 (((decide (x.ak=(3:Int)))=true ->
 (O x.aI ->
 (O gg.aq ->
 ((((!(decide ((0:Int)<=x.aI/\x.aI<=(IntKind.wrap .i64 (gg.aq - (1:Int))))))=true) ->
 ((0:Int)=(DN gg x bu depth)/\false=(yK gg x bu depth)))/\(((!(decide ((0:Int)<=x.aI/\x.aI<=(IntKind.wrap .i64 (gg.aq - (1:Int))))))=false) ->
 (tT gg x bu depth))))))/\((decide (x.ak=(3:Int)))=false ->
 (((decide (x.ak=(4:Int)))=true ->
 (O x.aI ->
 (O gg.bd ->
 ((((!(decide ((0:Int)<=x.aI/\x.aI<=(IntKind.wrap .i64 (gg.bd - (1:Int))))))=true) ->
 ((0:Int)=(DN gg x bu depth)/\false=(yK gg x bu depth)))/\(((!(decide ((0:Int)<=x.aI/\x.aI<=(IntKind.wrap .i64 (gg.bd - (1:Int))))))=false) ->
 (tT gg x bu depth))))))/\((decide (x.ak=(4:Int)))=false ->
 (O x.aI ->
 (((!(decide (x.aI=(0:Int))))=true ->
 ((0:Int)=(DN gg x bu depth)/\false=(yK gg x bu depth)))/\((!(decide (x.aI=(0:Int))))=false ->
 (tT gg x bu depth)))))))))/\(∀ u1:Unit,((cN x.ak=(x.M.length:Int)/\1<=bu/\1<=depth/\GM (aN gg.aq) (aN gg.bd) x=true) ->
 ((O x.ak ->
 (((decide (x.ak=(5:Int)))=true ->
 (x.M.length<=140737488355328 ->
 (aw (0:Int) x.M.length/\(((!(bj (x.M.getD 0 zE)))=true ->
 ((0:Int)=(DN gg x bu depth)/\false=(yK gg x bu depth)))/\((!(bj (x.M.getD 0 zE)))=false ->
 (Cm gg x bu depth))))))/\((decide (x.ak=(5:Int)))=(!true) ->
 ((false=true ->
 ((0:Int)=(DN gg x bu depth)/\false=(yK gg x bu depth)))/\(false=false ->
 (Cm gg x bu depth))))))/\(∀ u2:Unit,((rr (aN gg.aq) (aN gg.bd) x=true/\1<=bu/\1<=depth) ->
 (O (bu - (1:Int))/\(x.M.length<=140737488355328 ->
 (O ((x.M.length:Int)) ->
 ((∃ k3:Nat,((k3<=x.M.length/\bq (aZ (aN gg.aq) (aN gg.bd)) (x.M.take k3)=true/\1+(bF aF (x.M.take k3):Int)<=bu/\1+(iR bJ (x.M.take k3):Int)<=depth)/\(((bu - (1:Int))=(bu - (1+(bF aF (x.M.take k3):Int)))/\(depth=depth/\(gg=gg/\(x.M=x.M/\(((x.M.length:Int))=((x.M.length:Int))/\((0:Int)=(k3:Int)/\True))))))/\True)))/\(∀ k3:Nat,((k3<=x.M.length/\bq (aZ (aN gg.aq) (aN gg.bd)) (x.M.take k3)=true/\1+(bF aF (x.M.take k3):Int)<=bu/\1+(iR bJ (x.M.take k3):Int)<=depth) ->
 (((decide ((k3:Int)<((x.M.length:Int))))=true ->
 (aw (k3:Int) x.M.length/\(O (depth - (1:Int))/\((cz (ag (x.M.getD k3 zE))<n/\0<=(bu - (1+(bF aF (x.M.take k3):Int)))/\(bu - (1+(bF aF (x.M.take k3):Int)))<=1048576/\0<=(depth - (1:Int))/\(depth - (1:Int))<=1048576)/\(O (DN gg (ag (x.M.getD k3 zE)) (bu - (1+(bF aF (x.M.take k3):Int))) (depth - (1:Int))) ->
 (((!(yK gg (ag (x.M.getD k3 zE)) (bu - (1+(bF aF (x.M.take k3):Int))) (depth - (1:Int))))=true ->
 ((0:Int)=(DN gg x bu depth)/\false=(yK gg x bu depth)))/\((!(yK gg (ag (x.M.getD k3 zE)) (bu - (1+(bF aF (x.M.take k3):Int))) (depth - (1:Int))))=false ->
 (O ((k3:Int)+(1:Int))/\(∃ k4:Nat,((k4<=x.M.length/\bq (aZ (aN gg.aq) (aN gg.bd)) (x.M.take k4)=true/\1+(bF aF (x.M.take k4):Int)<=bu/\1+(iR bJ (x.M.take k4):Int)<=depth)/\(x.M.length - k4<x.M.length - k3/\(((DN gg (ag (x.M.getD k3 zE)) (bu - (1+(bF aF (x.M.take k3):Int))) (depth - (1:Int)))=(bu - (1+(bF aF (x.M.take k4):Int)))/\(depth=depth/\(gg=gg/\(x.M=x.M/\(((x.M.length:Int))=((x.M.length:Int))/\(((k3:Int)+(1:Int))=(k4:Int)/\True))))))/\True))))))))))))/\((decide ((k3:Int)<((x.M.length:Int))))=false ->
 ((bu - (1+(bF aF (x.M.take k3):Int)))=(DN gg x bu depth)/\true=(yK gg x bu depth))))))))))))))))
abbrev Co(n:Nat)(gg:aO)(x:J)(bu:Int)(depth:Int):Prop:=(O x.ak ->
 (O (cN x.ak) ->
 (x.M.length<=140737488355328 ->
 (O ((x.M.length:Int)) ->
 (((!(decide ((cN x.ak)=((x.M.length:Int)))))=true ->
 ((0:Int)=(DN gg x bu depth)/\false=(yK gg x bu depth)))/\((!(decide ((cN x.ak)=((x.M.length:Int)))))=false ->
 (Cn n gg x bu depth)))))))
abbrev Cp(n:Nat)(gg:aO)(x:J)(bu:Int)(depth:Int):Prop:=((true=true ->
 ((0:Int)=(DN gg x bu depth)/\false=(yK gg x bu depth)))/\(true=false ->
 (Cn n gg x bu depth)))
theorem Q6(n:Nat)(gg:aO)(x:J)(bu:Int)(depth:Int):ck (aL [nW n,o8,cp,cx] [40,49] [] [4,5]) (au lM) (Gt gg x bu depth) 0 (bg (aL [nW n,o8,cp,cx] [40,49] [] [4,5]) lM λ r=>bp r [⟨(.int .i64),DN gg x bu depth⟩,⟨.bool,yK gg x bu depth⟩]) (aD lM [.val ⟨(.st .sig),gg⟩, .val ⟨(.st .expr),x⟩, .val ⟨(.int .i64),bu⟩, .val ⟨(.int .i64),depth⟩]) =
 ((((decide (bu=(0:Int)))=false ->
 (((decide (depth=(0:Int)))=false ->
 (Co n gg x bu depth))/\((decide (depth=(0:Int)))=(!false) ->
 (Cp n gg x bu depth))))/\((decide (bu=(0:Int)))=(!false) ->
 ((true=false ->
 (Co n gg x bu depth))/\(true=(!false) ->
 (Cp n gg x bu depth)))))):=by kernel_rfl
theorem QS(n:Nat)(hE:aG [nW n,o8,cp,cx]):aJ.Good (nW (n+1)):=by
 refine⟨aA qJ rfl (by decide),?_⟩
 show ∀ (gg:aO) (x:J) (bu:Int) (depth:Int),(cz x<n+1/\0<=bu/\bu<=1048576/\0<=depth/\depth<=1048576)->bh prog tc [.val ⟨(.st .sig),gg⟩, .val ⟨(.st .expr),x⟩, .val ⟨(.int .i64),bu⟩, .val ⟨(.int .i64),depth⟩] (·=[⟨(.int .i64),DN gg x bu depth⟩,⟨.bool,yK gg x bu depth⟩])
 intro gg x bu depth hp
 refine aM (wr:=[40,49]) (cl:=[]) (ro:=[4,5]) hE qJ LH (Gt gg x bu depth) ?_
 rewrite [Q6 n gg x bu depth]
 have fs:=yL gg x bu depth
 rw[kB _ _ x,yD x,jB x] at fs
 have f0:=dV x
 have f1:=xp aF x.M
 have f2:=S7 bJ x.M
 have f3:=all_zero (aZ (aN gg.aq) (aN gg.bd)) x.M
 refine⟨λ _=>⟨λ _ _ _ _ _=>⟨λ _=>⟨?_,?_⟩,λ _=>⟨λ _=>⟨λ _ _ _=>⟨λ _=>⟨?_,?_⟩,λ _=>⟨(),?_,⟨rfl,rfl,rfl,rfl,trivial⟩,trivial⟩⟩,λ _=>⟨λ _ _ _=>⟨λ _=>⟨?_,?_⟩,λ _=>⟨(),?_,⟨rfl,rfl,rfl,rfl,trivial⟩,trivial⟩⟩,λ _ _=>⟨λ _=>⟨?_,?_⟩,λ _=>⟨(),?_,⟨rfl,rfl,rfl,rfl,trivial⟩,trivial⟩⟩⟩⟩,λ u1 _=>⟨λ _=>⟨λ _ _=>⟨?_,λ _=>⟨?_,?_⟩,λ _=>⟨(),?_,⟨rfl,rfl,rfl,rfl,trivial⟩,trivial⟩⟩,λ _=>⟨λ _=>⟨?_,?_⟩,λ _=>⟨(),?_,⟨rfl,rfl,rfl,rfl,trivial⟩,trivial⟩⟩⟩,λ u2 _=>⟨?_,λ _ _=>⟨⟨0,?_,⟨?_,rfl,rfl,rfl,rfl,?_,trivial⟩,trivial⟩,λ k3 _=>have YH:=dy (aZ (aN gg.aq) (aN gg.bd)) zE x.M k3;have YI:=dW (aZ (aN gg.aq) (aN gg.bd)) zE x.M k3;have YJ:=eI (aZ (aN gg.aq) (aN gg.bd)) x.M k3;have a1V:=cq zE x.M k3;have a5i:=oj aF zE x.M k3;have a5j:=dG aF x.M (k3+1);have a5k:=tp aF x.M k3;have a5l:=tW bJ zE x.M k3;have a5m:=ld bJ x.M (k3+1);have a5n:=CH bJ x.M k3;have a3B:=yL gg (x.M.getD k3 zE) (bu - (1+(bF aF (x.M.take k3):Int))) (depth - 1);⟨λ _=>⟨?_,?_,?_,λ _=>⟨λ _=>⟨?_,?_⟩,λ _=>⟨?_,k3+1,?_,?_,⟨?_,rfl,rfl,rfl,rfl,?_,trivial⟩,trivial⟩⟩⟩,λ _=>⟨?_,?_⟩⟩⟩⟩⟩⟩⟩,λ _=>⟨λ _=>⟨?_,?_⟩,λ _=>⟨λ _=>⟨λ _ _ _=>⟨λ _=>⟨?_,?_⟩,λ _=>⟨(),?_,⟨rfl,rfl,rfl,rfl,trivial⟩,trivial⟩⟩,λ _=>⟨λ _ _ _=>⟨λ _=>⟨?_,?_⟩,λ _=>⟨(),?_,⟨rfl,rfl,rfl,rfl,trivial⟩,trivial⟩⟩,λ _ _=>⟨λ _=>⟨?_,?_⟩,λ _=>⟨(),?_,⟨rfl,rfl,rfl,rfl,trivial⟩,trivial⟩⟩⟩⟩,λ u1 _=>⟨λ _=>⟨λ _ _=>⟨?_,λ _=>⟨?_,?_⟩,λ _=>⟨(),?_,⟨rfl,rfl,rfl,rfl,trivial⟩,trivial⟩⟩,λ _=>⟨λ _=>⟨?_,?_⟩,λ _=>⟨(),?_,⟨rfl,rfl,rfl,rfl,trivial⟩,trivial⟩⟩⟩,λ u2 _=>⟨?_,λ _ _=>⟨⟨0,?_,⟨?_,rfl,rfl,rfl,rfl,?_,trivial⟩,trivial⟩,λ k3 _=>have a1W:=dy (aZ (aN gg.aq) (aN gg.bd)) zE x.M k3;have a1X:=dW (aZ (aN gg.aq) (aN gg.bd)) zE x.M k3;have a1Y:=eI (aZ (aN gg.aq) (aN gg.bd)) x.M k3;have a4v:=cq zE x.M k3;have a6m:=oj aF zE x.M k3;have a6n:=dG aF x.M (k3+1);have a6o:=tp aF x.M k3;have a6p:=tW bJ zE x.M k3;have a6q:=ld bJ x.M (k3+1);have a6r:=CH bJ x.M k3;have a5o:=yL gg (x.M.getD k3 zE) (bu - (1+(bF aF (x.M.take k3):Int))) (depth - 1);⟨λ _=>⟨?_,?_,?_,λ _=>⟨λ _=>⟨?_,?_⟩,λ _=>⟨?_,k3+1,?_,?_,⟨?_,rfl,rfl,rfl,rfl,?_,trivial⟩,trivial⟩⟩⟩,λ _=>⟨?_,?_⟩⟩⟩⟩⟩⟩⟩⟩,λ _=>⟨λ _ _ _ _ _=>⟨λ _=>⟨?_,?_⟩,λ _=>⟨λ _=>⟨λ _ _ _=>⟨λ _=>⟨?_,?_⟩,λ _=>⟨(),?_,⟨rfl,rfl,rfl,rfl,trivial⟩,trivial⟩⟩,λ _=>⟨λ _ _ _=>⟨λ _=>⟨?_,?_⟩,λ _=>⟨(),?_,⟨rfl,rfl,rfl,rfl,trivial⟩,trivial⟩⟩,λ _ _=>⟨λ _=>⟨?_,?_⟩,λ _=>⟨(),?_,⟨rfl,rfl,rfl,rfl,trivial⟩,trivial⟩⟩⟩⟩,λ u1 _=>⟨λ _=>⟨λ _ _=>⟨?_,λ _=>⟨?_,?_⟩,λ _=>⟨(),?_,⟨rfl,rfl,rfl,rfl,trivial⟩,trivial⟩⟩,λ _=>⟨λ _=>⟨?_,?_⟩,λ _=>⟨(),?_,⟨rfl,rfl,rfl,rfl,trivial⟩,trivial⟩⟩⟩,λ u2 _=>⟨?_,λ _ _=>⟨⟨0,?_,⟨?_,rfl,rfl,rfl,rfl,?_,trivial⟩,trivial⟩,λ k3 _=>have YH:=dy (aZ (aN gg.aq) (aN gg.bd)) zE x.M k3;have YI:=dW (aZ (aN gg.aq) (aN gg.bd)) zE x.M k3;have YJ:=eI (aZ (aN gg.aq) (aN gg.bd)) x.M k3;have a1V:=cq zE x.M k3;have a5i:=oj aF zE x.M k3;have a5j:=dG aF x.M (k3+1);have a5k:=tp aF x.M k3;have a5l:=tW bJ zE x.M k3;have a5m:=ld bJ x.M (k3+1);have a5n:=CH bJ x.M k3;have a3B:=yL gg (x.M.getD k3 zE) (bu - (1+(bF aF (x.M.take k3):Int))) (depth - 1);⟨λ _=>⟨?_,?_,?_,λ _=>⟨λ _=>⟨?_,?_⟩,λ _=>⟨?_,k3+1,?_,?_,⟨?_,rfl,rfl,rfl,rfl,?_,trivial⟩,trivial⟩⟩⟩,λ _=>⟨?_,?_⟩⟩⟩⟩⟩⟩⟩,λ _=>⟨λ _=>⟨?_,?_⟩,λ _=>⟨λ _=>⟨λ _ _ _=>⟨λ _=>⟨?_,?_⟩,λ _=>⟨(),?_,⟨rfl,rfl,rfl,rfl,trivial⟩,trivial⟩⟩,λ _=>⟨λ _ _ _=>⟨λ _=>⟨?_,?_⟩,λ _=>⟨(),?_,⟨rfl,rfl,rfl,rfl,trivial⟩,trivial⟩⟩,λ _ _=>⟨λ _=>⟨?_,?_⟩,λ _=>⟨(),?_,⟨rfl,rfl,rfl,rfl,trivial⟩,trivial⟩⟩⟩⟩,λ u1 _=>⟨λ _=>⟨λ _ _=>⟨?_,λ _=>⟨?_,?_⟩,λ _=>⟨(),?_,⟨rfl,rfl,rfl,rfl,trivial⟩,trivial⟩⟩,λ _=>⟨λ _=>⟨?_,?_⟩,λ _=>⟨(),?_,⟨rfl,rfl,rfl,rfl,trivial⟩,trivial⟩⟩⟩,λ u2 _=>⟨?_,λ _ _=>⟨⟨0,?_,⟨?_,rfl,rfl,rfl,rfl,?_,trivial⟩,trivial⟩,λ k3 _=>have a1W:=dy (aZ (aN gg.aq) (aN gg.bd)) zE x.M k3;have a1X:=dW (aZ (aN gg.aq) (aN gg.bd)) zE x.M k3;have a1Y:=eI (aZ (aN gg.aq) (aN gg.bd)) x.M k3;have a4v:=cq zE x.M k3;have a6m:=oj aF zE x.M k3;have a6n:=dG aF x.M (k3+1);have a6o:=tp aF x.M k3;have a6p:=tW bJ zE x.M k3;have a6q:=ld bJ x.M (k3+1);have a6r:=CH bJ x.M k3;have a5o:=yL gg (x.M.getD k3 zE) (bu - (1+(bF aF (x.M.take k3):Int))) (depth - 1);⟨λ _=>⟨?_,?_,?_,λ _=>⟨λ _=>⟨?_,?_⟩,λ _=>⟨?_,k3+1,?_,?_,⟨?_,rfl,rfl,rfl,rfl,?_,trivial⟩,trivial⟩⟩⟩,λ _=>⟨?_,?_⟩⟩⟩⟩⟩⟩⟩⟩⟩
 all_goals try and_intros
 all_goals try (first|with_reducible rfl|with_reducible assumption)
 all_goals try simp only[J.eta,ae.eta,aj.eta,aP,bM,cn] at *
 all_goals ((try simp only[aN] at *);generalize IntKind.wrap .i64 (gg.aq - 1)=T at *;generalize IntKind.wrap .i64 (gg.bd - 1)=A at *;first|rfl|trivial|(simp only[decide_eq_true_eq,decide_eq_false_iff_not,aw,O] at *;omega)|(rcases fs with ⟨t1,t2,t3,t4,t5⟩|⟨t1,t4,t5⟩<;>(try rw[t4])<;>(try rw[t5])<;>clear t4 t5<;>simp only[decide_eq_true_eq,decide_eq_false_iff_not,xl,GM,Bool.and_eq_true,Bool.and_eq_false_iff,Bool.not_eq_true',Bool.not_eq_false',O] at *<;>first|rfl|omega|grind|grind [cN]))
theorem IX :∀ n,aG [nW n]
 | 0=>⟨⟨aA qJ rfl (by decide),λ _ _ _ _ h=>absurd h.1 (a9p _)⟩,trivial⟩
 | n+1=>by
  have ih:=IX  n
  exact⟨QS n ⟨ih.1,Md,ie,iL,trivial⟩,trivial⟩
theorem Me :aJ.Good sS :=
 ⟨aA qJ rfl (by decide),λ gg x bu depth hp=>(IX  (cz x+1)).1.2 gg x bu depth (⟨a9h _,hp⟩)⟩
end
end Go.Proofs.YtmjfpcajohhbeaaGreatDoor

namespace Go.Proofs.YtmjfpcajohhbeaaGreatDoor
noncomputable section
end
end Go.Proofs.YtmjfpcajohhbeaaGreatDoor

set_option maxRecDepth 4000
set_option maxHeartbeats 4000000
namespace Go.Proofs.YtmjfpcajohhbeaaGreatDoor
noncomputable section
theorem TO(gg:aO):bK gg=true↔(0<=gg.aq/\gg.aq<=3)/\(0<=gg.bd/\gg.bd<=4):=by
 simp[bK]
def cg(gg:aO)(x:J):Bool:=yK gg x 200 40
def uu(gg:aO)(x:J):Bool:=bK gg&&cg gg x
theorem xT(gg:aO)(x:J):cg gg x=true↔aZ (aN gg.aq) (aN gg.bd) x=true/\aF x<=200/\bJ x<=40:=by
 simp only[cg,yK,a8r,a8p]
 constructor
 .rintro⟨⟨a,b⟩,c⟩;exact⟨a,by omega,by omega⟩
 .rintro⟨a,b,c⟩;exact⟨⟨a,by omega⟩,by omega⟩
theorem XB(t a t' a':Int)(h1:t<=t')(h2:a<=a')(x:J)(h:rr t a x=true):rr t' a' x=true:=by
 rw[xl] at h ⊢
 simp only[a8r] at h ⊢
 refine⟨⟨h.1.1,?_⟩,h.2⟩
 have:=h.1.2
 unfold GM at this ⊢
 split
 .rename_i e;rw[a8O e] at this;simp only[a8p] at this ⊢;omega
 .rename_i e;rw[a8y e] at this
  split
  .rename_i e';rw[a8O e'] at this;simp only[a8p] at this ⊢;omega
  .rename_i e';rw[a8y e'] at this;exact this
mutual
theorem Hi(t a t' a':Int)(h1:t<=t')(h2:a<=a'):∀ x:J,aZ t a x=true->aZ t' a' x=true
 | ⟨k,n,ks⟩=>λ h=>by
  simp only[aZ,a8r] at h ⊢
  exact⟨XB t a t' a' h1 h2 _ h.1,Nt t a t' a' h1 h2 ks h.2⟩
theorem Nt(t a t' a':Int)(h1:t<=t')(h2:a<=a'):∀ xs:List J,pU t a xs=true->pU t' a' xs=true
 | []=>λ _=>rfl
 | x::xs=>λ h=>by
  simp only[pU,a8r] at h ⊢
  exact⟨Hi t a t' a' h1 h2 x h.1,Nt t a t' a' h1 h2 xs h.2⟩
end
def UI(p:Nat->Bool):Nat->Bool
 | 0=>true
 | n+1=>UI p n&&p n
def de:aJ:=⟨yo,[.v (.st .sig), .v (.st .expr)],λ (gg:aO) (x:J)=>⟨(none,[⟨.bool,cg gg x⟩])⟩⟩
def Gp(gg:aO)(x:J):Nat->aH:=λ _ => .none
theorem Q2(gg:aO)(x:J):ck (aL [sS] [] [] [2,3]) (au lI) (Gp gg x) 0 (bg (aL [sS] [] [] [2,3]) lI λ r=>bp r [⟨.bool,cg gg x⟩]) (aD lI [.val ⟨(.st .sig),gg⟩, .val ⟨(.st .expr),x⟩]) =
 (((0<=(200:Int)/\(200:Int)<=1048576/\0<=(40:Int)/\(40:Int)<=1048576)/\(O (DN gg x (200:Int) (40:Int)) ->
 (yK gg x (200:Int) (40:Int))=(cg gg x)))):=by kernel_rfl
theorem QO(hE:aG [sS]):aJ.Good de:=by
 refine⟨aA D1 rfl (by decide),?_⟩
 show ∀ (gg:aO) (x:J),True->bh prog yo [.val ⟨(.st .sig),gg⟩, .val ⟨(.st .expr),x⟩] (·=[⟨.bool,cg gg x⟩])
 intro gg x _
 refine aM (wr:=[]) (cl:=[]) (ro:=[2,3]) hE D1 LC (Gp gg x) ?_
 rewrite [Q2 gg x]
 refine⟨?_,λ _=>?_⟩
 all_goals try and_intros
 all_goals first|rfl|trivial|omega|(simp only[a8p,a8q,aw,O,cr,cW,cH,br] at *;omega)|(simp[aw,O] at *;omega)|grind
theorem oL:aJ.Good de:=QO ⟨Me,trivial⟩
def eQ:aJ:=⟨uL,[.v (.st .sig), .r (.st .expr)],λ (gg:aO) (x:J)=>⟨(none,[⟨.bool,uu gg x⟩])⟩⟩
def Jj(gg:aO)(x:J):Nat->aH:=λ _ => .none
abbrev Eh(gg:aO)(x:J):Prop:=(bJ x<=1048576/\(O ((bJ x:Int)) ->
 (((decide (((bJ x:Int))<=(40:Int)))=true ->
 (aZ (aN gg.aq) (aN gg.bd) x)=(uu gg x))/\((decide (((bJ x:Int))<=(40:Int)))=(!true) ->
 false=(uu gg x)))))
theorem T8(gg:aO)(x:J):ck (aL [eb,qU,pP,qW] [] [] [2]) (au og) (Jj gg x) 0 (bg (aL [eb,qU,pP,qW] [] [] [2]) og λ r=>bp r [⟨.bool,uu gg x⟩]) (aD og [.val ⟨(.st .sig),gg⟩, .ref ⟨(.st .expr),x⟩]) =
 ((((bK gg)=true ->
 ((0<=(200:Int)/\(200:Int)<=1048576)/\(O (bT (aF x) (200:Int)) ->
 (((decide ((0:Int)<=(bT (aF x) (200:Int))))=true ->
 (Eh gg x))/\((decide ((0:Int)<=(bT (aF x) (200:Int))))=(!true) ->
 ((false=true ->
 (aZ (aN gg.aq) (aN gg.bd) x)=(uu gg x))/\(false=(!true) ->
 false=(uu gg x))))))))/\((bK gg)=(!true) ->
 ((false=true ->
 (Eh gg x))/\(false=(!true) ->
 ((false=true ->
 (aZ (aN gg.aq) (aN gg.bd) x)=(uu gg x))/\(false=(!true) ->
 false=(uu gg x)))))))):=by kernel_rfl
theorem Tq(hE:aG [eb,qU,pP,qW]):aJ.Good eQ:=by
 refine⟨aA FH rfl (by decide),?_⟩
 show ∀ (gg:aO) (x:J),True->bh prog uL [.val ⟨(.st .sig),gg⟩, .ref ⟨(.st .expr),x⟩] (·=[⟨.bool,uu gg x⟩])
 intro gg x _
 refine aM (wr:=[]) (cl:=[]) (ro:=[2]) hE FH N1 (Jj gg x) ?_
 rewrite [T8 gg x]
 have f1:=eF (aF x) 200
 have f2:=L0 x
 have f3:uu gg x=(bK gg&&(aZ (aN gg.aq) (aN gg.bd) x&&decide ((aF x:Int)<=200)&&decide ((bJ x:Int)<=40))):=rfl
 refine⟨λ _=>⟨?_,λ _=>⟨λ _=>⟨?_,λ _=>⟨λ _=>?_,λ _=>?_⟩⟩,λ _=>⟨λ _=>?_,λ _=>?_⟩⟩⟩,λ _=>⟨λ _=>⟨?_,λ _=>⟨λ _=>?_,λ _=>?_⟩⟩,λ _=>⟨λ _=>?_,λ _=>?_⟩⟩⟩
 all_goals try and_intros
 all_goals try rw[f3]
 all_goals first|rfl|trivial|omega|(simp only[a8p,a8q,a8J,a8X] at *;omega)|grind
theorem pK:aJ.Good eQ:=Tq ⟨sF,Kq,Io,Ks,trivial⟩
def dZ:aJ:=⟨rC,[.v (.st .sig), .v (.slice (.st .expr))],λ (gg:aO) (xs:List J)=>⟨(none,[⟨.bool,bq (cg gg) xs&&bK gg⟩])⟩⟩
def yg(gg:aO)(xs:List J):Nat->aH:=(λ zb=>if Nat.beq zb 0 then .mk (Nat) (λ k=>k<=xs.length/\bq (cg gg) (xs.take k)=true) (λ k=>xs.length - k) [] [0,1,3,5] (λ k=>[(9, .aW ⟨(.int .i64),((k:Int):Int)⟩)]) [2,4,6,7,8,9,10,11,12,13,14,15,16,17,18,19] (λ k=>[]) [] [] (λ k=>λ _ => .none) else .none)
theorem IQ(gg:aO)(xs:List J):ck (aL [de,ft] [] [] [2]) (au gE) (yg gg xs) 0 (bg (aL [de,ft] [] [] [2]) gE λ r=>bp r [⟨.bool,bq (cg gg) xs&&bK gg⟩]) (aD gE [.val ⟨(.st .sig),gg⟩, .val ⟨(.slice (.st .expr)),xs⟩]) =
 ((O ((xs.length:Int)) ->
 ((∃ k1:Nat,((k1<=xs.length/\bq (cg gg) (xs.take k1)=true)/\((gg=gg/\(xs=xs/\(((xs.length:Int))=((xs.length:Int))/\((0:Int)=(k1:Int)/\True))))/\True)))/\(∀ k1:Nat,((k1<=xs.length/\bq (cg gg) (xs.take k1)=true) ->
 (((decide ((k1:Int)<((xs.length:Int))))=true ->
 (aw (k1:Int) xs.length/\(((!(cg gg (ag (xs.getD k1 zE))))=true ->
 false=(bq (cg gg) xs&&bK gg))/\((!(cg gg (ag (xs.getD k1 zE))))=false ->
 (O ((k1:Int)+(1:Int))/\(∃ k2:Nat,((k2<=xs.length/\bq (cg gg) (xs.take k2)=true)/\(xs.length - k2<xs.length - k1/\((gg=gg/\(xs=xs/\(((xs.length:Int))=((xs.length:Int))/\(((k1:Int)+(1:Int))=(k2:Int)/\True))))/\True)))))))))/\((decide ((k1:Int)<((xs.length:Int))))=false ->
 (bK gg)=(bq (cg gg) xs&&bK gg)))))))):=by kernel_rfl
theorem IF(hE:aG [de,ft]):aJ.Good dZ:=by
 refine⟨aA wD rfl (by decide),?_⟩
 show ∀ (gg:aO) (xs:List J),True->bh prog rC [.val ⟨(.st .sig),gg⟩, .val ⟨(.slice (.st .expr)),xs⟩] (·=[⟨.bool,bq (cg gg) xs&&bK gg⟩])
 intro gg xs _
 refine aM (wr:=[]) (cl:=[]) (ro:=[2]) hE wD EZ (yg gg xs) ?_
 rewrite [IQ gg xs]
 have f1:=all_zero (cg gg) xs
 refine λ _=>⟨⟨0,?_,⟨rfl,rfl,rfl,?_,trivial⟩,trivial⟩,λ k1 _=>have RZ:=dy (cg gg) zE xs k1;have R0:=dW (cg gg) zE xs k1;have R1:=eI (cg gg) xs k1;⟨λ _=>⟨?_,λ _=>?_,λ _=>⟨?_,k1+1,?_,?_,⟨rfl,rfl,rfl,?_,trivial⟩,trivial⟩⟩,λ _=>?_⟩⟩
 all_goals try and_intros
 all_goals try (first|with_reducible rfl|with_reducible assumption)
 all_goals try simp only[J.eta,ae.eta,aj.eta,aP,bM,cn] at *
 all_goals first|rfl|trivial|(simp only[a8p,a8q,aw,O] at *;omega)|(simp_all;done)|(simp_all [aw,O];omega)
theorem tC:aJ.Good dZ:=IF ⟨oL,wH,trivial⟩
end
end Go.Proofs.YtmjfpcajohhbeaaGreatDoor

namespace Go.Proofs.YtmjfpcajohhbeaaGreatDoor
noncomputable section
mutual
def c9(ts as_:List J):J->J
 | ⟨k,n,ks⟩=>if k=3 then ts.getD n.toNat zE else if k=4 then as_.getD n.toNat zE else ⟨k,n,mV ts as_ ks⟩
def mV(ts as_:List J):List J->List J
 | []=>[]
 | x::xs=>c9 ts as_ x::mV ts as_ xs
end
mutual
def cC:J->Int×Int
 | ⟨k,n,ks⟩=>if k=3 then (n+1,0) else if k=4 then (0,n+1) else bL ks
def bL:List J->Int×Int
 | []=>(0,0)
 | x::xs=>(max (cC x).1 (bL xs).1,max (cC x).2 (bL xs).2)
end
theorem U3(ts as_:List J):∀ xs,mV ts as_ xs=xs.map (c9 ts as_)
 | []=>by rw[mV];rfl
 | x::xs=>by rw[mV,U3 ts as_ xs];rfl
theorem V5(ts as_:List J)(x:J):c9 ts as_ x=if x.ak=3 then ts.getD x.aI.toNat zE else if x.ak=4 then as_.getD x.aI.toNat zE else ⟨x.ak,x.aI,x.M.map (c9 ts as_)⟩:=by
 cases x with
 | mk k n ks=>rw[c9,U3]
theorem CQ(x:J):cC x=if x.ak=3 then (x.aI+1,0) else if x.ak=4 then (0,x.aI+1) else bL x.M:=by
 cases x with
 | mk k n ks=>rw[cC]
structure iv(ts as_:List J)(x:J):Prop where
 t:(cC x).1<=(ts.length:Int)
 a:(cC x).2<=(as_.length:Int)
def L7(ts as_:List J)(xs:List J):Prop:=(bL xs).1<=(ts.length:Int)/\(bL xs).2<=(as_.length:Int)
theorem V4(ts as_:List J)(x:J)(xs:List J):L7 ts as_ (x::xs)↔iv ts as_ x/\L7 ts as_ xs:=by
 have e:iv ts as_ x↔(cC x).1<=(ts.length:Int)/\(cC x).2<=(as_.length:Int):=⟨λ h=>⟨h.t,h.a⟩,λ h=>⟨h.1,h.2⟩⟩
 rw[e]
 unfold L7
 rw[bL]
 dsimp only
 omega
theorem YU{ts as_:List J}{x:J}(h:iv ts as_ x)(h3:¬ x.ak=3)(h4:¬ x.ak=4):L7 ts as_ x.M:=by
 have h1:=h.t
 have h2:=h.a
 rw[CQ,a8y h3,a8y h4] at h1 h2
 exact⟨h1,h2⟩
theorem U2{ts as_:List J}:∀ {xs:List J},L7 ts as_ xs->∀ x∈xs,iv ts as_ x
 | [],_,_,h=>by cases h
 | y::ys,h,x,hx=>by
  rw[V4] at h
  rcases a8I.1 hx with rfl|hx
  .exact h.1
  .exact U2 h.2 x hx
theorem Z5{ts as_:List J}{x:J}(h:iv ts as_ x)(h3:x.ak=3):x.aI<(ts.length:Int):=by
 have:=h.t
 rw[CQ,a8O h3] at this
 dsimp only at this
 omega
theorem Z4{ts as_:List J}{x:J}(h:iv ts as_ x)(h4:x.ak=4):x.aI<(as_.length:Int):=by
 have:=h.a
 rw[CQ,a8y (by omega),a8O h4] at this
 dsimp only at this
 omega
mutual
def ed(ts as_:List J):J->Int->J×Int
 | ⟨k,n,ks⟩,l=>if l - 1<0 then (zE,l - 1) else
   if k=3\/k=4 then (let e:=(if k=4 then as_ else ts).getD n.toNat zE;(e,l - 1 - ((aF e:Int) - 1))) else
   (⟨k,n,(du ts as_ ks (l - 1)).1⟩,(du ts as_ ks (l - 1)).2)
def du(ts as_:List J):List J->Int->List J×Int
 | [],l=>([],l)
 | x::xs,l=>((ed ts as_ x l).1::(du ts as_ xs (ed ts as_ x l).2).1,(du ts as_ xs (ed ts as_ x l).2).2)
end
theorem Az(x:J):1<=aF x:=by cases x;rw[aF];omega
mutual
theorem Yb(ts as_:List J):∀ (x:J) (l:Int),(ed ts as_ x l).2<=l - 1/\(0<=(ed ts as_ x l).2->(ed ts as_ x l).1=c9 ts as_ x/\(ed ts as_ x l).2=l - (aF (c9 ts as_ x):Int))/\((ed ts as_ x l).2<0->l<(aF (c9 ts as_ x):Int))
 | ⟨k,n,ks⟩,l=>by
  rw[ed,c9]
  have hp:=Az
  by_cases h0:l - 1<0
  .rw[a8O h0]
   have:=hp (if k=3 then ts.getD n.toNat zE else if k=4 then as_.getD n.toNat zE else ⟨k,n,mV ts as_ ks⟩)
   refine⟨Int.le_refl _,λ h=>by dsimp only at h;omega,λ _=>by omega⟩
  .rw[a8y h0]
   by_cases h3:k=3
   .subst h3
    have:=hp (ts.getD n.toNat zE)
    rw[a8O (Or.inl rfl:(3:Int)=3\/(3:Int)=4),a8O rfl,a8y (show ¬ (3:Int)=4 by decide)]
    dsimp only
    exact⟨by omega,λ h=>⟨rfl,by omega⟩,λ h=>by omega⟩
   .by_cases h4:k=4
    .subst h4
     have:=hp (as_.getD n.toNat zE)
     rw[a8O (Or.inr rfl:(4:Int)=3\/(4:Int)=4),a8y h3,a8O rfl,a8O rfl]
     dsimp only
     exact⟨by omega,λ h=>⟨rfl,by omega⟩,λ h=>by omega⟩
    .rw[a8y (by omega),a8y h3,a8y h4,aF]
     obtain⟨s1,s2,s3⟩:=HG ts as_ ks (l - 1)
     refine⟨s1,λ h=>?_,λ h=>?_⟩
     .obtain⟨g1,g2⟩:=s2 h
      rw[g1]
      exact⟨rfl,by rw[g2];omega⟩
     .have:=s3 (by omega) h
      omega
theorem HG(ts as_:List J):∀ (xs:List J) (l:Int),(du ts as_ xs l).2<=l/\(0<=(du ts as_ xs l).2->(du ts as_ xs l).1=mV ts as_ xs/\(du ts as_ xs l).2=l - (df (mV ts as_ xs):Int))/\(0<=l->(du ts as_ xs l).2<0->l<(df (mV ts as_ xs):Int))
 | [],l=>by
  rw[du,mV,df]
  exact⟨Int.le_refl _,λ _=>⟨rfl,by dsimp only;omega⟩,λ h h'=>by dsimp only at h';omega⟩
 | x::xs,l=>by
  rw[du,mV,df]
  obtain⟨a1,a2,a3⟩:=Yb ts as_ x l
  obtain⟨b1,b2,b3⟩:=HG ts as_ xs (ed ts as_ x l).2
  dsimp only
  refine⟨by omega,λ h=>?_,λ h h'=>?_⟩
  .obtain⟨c1,c2⟩:=b2 h
   obtain⟨d1,d2⟩:=a2 (by omega)
   rw[c1,d1]
   exact⟨rfl,by omega⟩
  .rcases b2w (ed ts as_ x l).2 0 with g|g
   .have:=a3 g
    omega
   .have:=b3 g h'
    obtain⟨d1,d2⟩:=a2 g
    omega
end
theorem Ru(gg:aO)(ts as_:List J)(x:J):(decide (0<=(ed ts as_ x 200).2)&&cg gg (ed ts as_ x 200).1)=cg gg (c9 ts as_ x)/\(0<=(ed ts as_ x 200).2->(ed ts as_ x 200).1=c9 ts as_ x):=by
 obtain⟨s1,s2,s3⟩:=Yb ts as_ x 200
 refine⟨?_,λ h=>(s2 h).1⟩
 by_cases h:0<=(ed ts as_ x 200).2
 .rw[a8W h,(s2 h).1,a9B]
 .have:=s3 (by omega)
  have e:cg gg (c9 ts as_ x)=false:=by
   unfold cg yK
   rw[show decide ((aF (c9 ts as_ x):Int)<=200)=false from a8D (by omega)]
   simp
  rw[a8D h,e];rfl
def gv(y:J):J->List Int->J
 | _,[]=>y
 | x,k::ks=>⟨x.ak,x.aI,x.M.set k.toNat (gv y (x.M.getD k.toNat zE) ks)⟩
structure Bt(x:J)(ks:List Int)(k:Nat):Prop where
 le:k<=ks.length
 ok:eH x (ks.take k)=true
theorem Bt.zero(x:J)(ks:List Int):Bt x ks 0:=⟨a9J _,rfl⟩
theorem Bt.bad{x:J}{ks:List Int}{k:Nat}(h:Bt x ks k)(hk:k<ks.length)(hb:¬ (0<=ks.getD k 0/\ks.getD k 0<=((dd x (ks.take k)).M.length:Int) - 1)):eH x ks=false :=
 a0m x ks (k+1) (by rw[(yC x ks k hk).1,show Oq (dd x (ks.take k)) (ks.getD k 0)=false from a8D hb,a9P])
theorem Bt.next{x:J}{ks:List Int}{k:Nat}(h:Bt x ks k)(hk:k<ks.length)(hb:0<=ks.getD k 0/\ks.getD k 0<=((dd x (ks.take k)).M.length:Int) - 1):Bt x ks (k+1) :=
 ⟨hk,by rw[(yC x ks k hk).1,show Oq (dd x (ks.take k)) (ks.getD k 0)=true from a8W hb,h.ok];rfl⟩
theorem Bt.done{x:J}{ks:List Int}{k:Nat}(h:Bt x ks k)(hk:ks.length<=k):eH x ks=true:=by rw[<-(WE x ks k hk).1];exact h.ok
end
end Go.Proofs.YtmjfpcajohhbeaaGreatDoor

set_option maxRecDepth 4000
set_option maxHeartbeats 4000000
namespace Go.Proofs.YtmjfpcajohhbeaaGreatDoor
noncomputable section
def qy:aJ:=⟨DC,[.v (.int .i64), .v (.int .i64)],λ (k:Int) (m:Int)=>⟨(none,[⟨(.st .expr),J.mk k m []⟩])⟩⟩
def Jl(k:Int)(m:Int):Nat->aH:=λ _ => .none
theorem Ua(k:Int)(m:Int):ck (cY [] [] [] [] []) (au pJ) (Jl k m) 0 (fI (cY [] [] [] [] []) pJ λ r=>bp r [⟨(.st .expr),J.mk k m []⟩]) (jN pJ [.val ⟨(.int .i64),k⟩, .val ⟨(.int .i64),m⟩]) =
 ((J.mk k m [])=(J.mk k m [])):=by kernel_rfl
theorem Tt(hE:aG [])(hO:fW [])(hM:gZ [])(hS:fX []):aJ.eA qy:=by
 refine⟨aA IY rfl (by decide),?_⟩
 show ∀ (k:Int) (m:Int),True->iI prog DC [.val ⟨(.int .i64),k⟩, .val ⟨(.int .i64),m⟩] [⟨(.st .expr),J.mk k m []⟩]
 intro k m _
 refine ec (own:=[]) (wr:=[]) (cl:=[]) (ro:=[]) hE hO hM hS IY Qz (Jl k m) ?_
 rewrite [Ua k m]
 refine rfl
 all_goals try and_intros
 all_goals first|rfl|trivial|omega|(simp only[a8p,a8q,aw,O,cr,cW,cH,br] at *;omega)|(simp[aw,O] at *;omega)|grind
theorem OA:aJ.eA qy:=Tt trivial trivial trivial trivial
def iQ:aJ:=⟨td,[.v (.int .i64), .o (.slice (.st .expr))],λ (k:Int) (ks:List J)=>⟨(none,[⟨(.st .expr),J.mk k 0 ks⟩])⟩⟩
def Jm(k:Int)(ks:List J):Nat->aH:=λ _ => .none
theorem Ub(k:Int)(ks:List J):ck (cY [] [] [] [] []) (au iJ) (Jm k ks) 0 (fI (cY [] [] [] [] []) iJ λ r=>bp r [⟨(.st .expr),J.mk k 0 ks⟩]) (jN iJ [.val ⟨(.int .i64),k⟩, .own ⟨(.slice (.st .expr)),ks⟩]) =
 ((J.mk k (0:Int) ks)=(J.mk k 0 ks)):=by kernel_rfl
theorem Tu(hE:aG [])(hO:fW [])(hM:gZ [])(hS:fX []):aJ.eA iQ:=by
 refine⟨aA uG rfl (by decide),?_⟩
 show ∀ (k:Int) (ks:List J),True->iI prog td [.val ⟨(.int .i64),k⟩, .own ⟨(.slice (.st .expr)),ks⟩] [⟨(.st .expr),J.mk k 0 ks⟩]
 intro k ks _
 refine ec (own:=[]) (wr:=[]) (cl:=[]) (ro:=[]) hE hO hM hS uG Eb (Jm k ks) ?_
 rewrite [Ub k ks]
 refine ?_
 all_goals try and_intros
 all_goals first|rfl|trivial|omega|(simp only[a8p,a8q,aw,O,cr,cW,cH,br] at *;omega)|(simp[aw,O] at *;omega)|grind
theorem CJ:aJ.eA iQ:=Tu trivial trivial trivial trivial
def jH(n:Nat):aJ:=⟨pQ,[.v (.st .expr)],λ (e:J)=>⟨(some (cz e<n/\ar e<=1048576),[⟨(.st .expr),e⟩])⟩⟩
def fH:aJ:=⟨pQ,[.v (.st .expr)],λ (e:J)=>⟨(some (ar e<=1048576),[⟨(.st .expr),e⟩])⟩⟩
def Aq(e:J):Nat->aH:=(λ zb=>if Nat.beq zb 0 then .mk (Nat) (λ i=>i<=e.M.length) (λ i=>e.M.length - i) [] [0,1,4,6,7,8,9,10,11] (λ i=>[(14, .aW ⟨(.int .i64),((i:Int):Int)⟩)]) [2,5,12,13,14,15,16,17,18,19,20,21,22,23,24,25,26] (λ i=>[(3, .box [.aW ⟨(.int .i64),(e.ak:Int)⟩, .aW ⟨(.int .i64),(e.aI:Int)⟩, .aE 2400]),(2400, .aE (.st .expr) (e.M.take i:List J))]) [] [] (λ i=>λ _ => .none) else .none)
theorem Lf(n:Nat)(e:J):ck (cY [] [jH n] [] [21,22,23] [] [] [1]) (au ja) (Aq e) 0 (fI (cY [] [jH n] [] [21,22,23] [] [] [1]) ja λ r=>bp r [⟨(.st .expr),e⟩]) (jN ja [.val ⟨(.st .expr),e⟩]) =
 ((O e.ak ->
 (O e.aI ->
 (e.M.length<=140737488355328 ->
 (O ((e.M.length:Int)) ->
 ((∃ i1:Nat,(i1<=e.M.length/\((True/\(True/\(e.M=e.M/\(((e.M.length:Int))=((e.M.length:Int))/\((0:Int)=(i1:Int)/\True)))))/\((e.ak=e.ak/\(e.aI=e.aI/\(True/\True)))/\((e.M.take i1)=[]/\(((0:Int)=(0:Int)/\((0:Int)=(0:Int)/\(True/\True)))/\True))))))/\(∀ i1:Nat,(i1<=e.M.length ->
 (((decide ((i1:Int)<((e.M.length:Int))))=true ->
 (aw (i1:Int) e.M.length/\(((3:Nat)=3/\(2:Nat)=2)/\((2400:Nat)=2400/\(((e.M.getD i1 zE).ak=(e.M.getD i1 zE).ak/\((e.M.getD i1 zE).aI=(e.M.getD i1 zE).aI/\((e.M.getD i1 zE).M=(e.M.getD i1 zE).M/\True)))/\((cz (ag (e.M.getD i1 zE))<n/\ar (ag (e.M.getD i1 zE))<=1048576)/\(((3:Nat)=3/\(2:Nat)=2)/\((2400:Nat)=2400/\(((3:Nat)=3/\(2:Nat)=2)/\((2400:Nat)=2400/\(br ((e.M.take i1).length+([(ag (e.M.getD i1 zE))]).length) 40/\(O ((i1:Int)+(1:Int))/\(∃ i2:Nat,(i2<=e.M.length/\(e.M.length - i2<e.M.length - i1/\((True/\(True/\(e.M=e.M/\(((e.M.length:Int))=((e.M.length:Int))/\(((i1:Int)+(1:Int))=(i2:Int)/\True)))))/\((e.ak=e.ak/\(e.aI=e.aI/\(True/\True)))/\(((e.M.take i1)++([(ag (e.M.getD i1 zE))]))=(e.M.take i2)/\(((0:Int)=(0:Int)/\((0:Int)=(0:Int)/\(True/\True)))/\True)))))))))))))))))))/\((decide ((i1:Int)<((e.M.length:Int))))=false ->
 (J.mk e.ak e.aI (e.M.take i1))=e)))))))))):=by kernel_rfl
theorem KW(n:Nat)(hE:aG [])(hO:fW [jH n])(hM:gZ [])(hS:fX []):aJ.eA (jH (n+1)):=by
 refine⟨aA oI rfl (by decide),?_⟩
 show ∀ (e:J),(cz e<n+1/\ar e<=1048576)->iI prog pQ [.val ⟨(.st .expr),e⟩] [⟨(.st .expr),e⟩]
 intro e hp
 refine ec (own:=[21,22,23]) (wr:=[]) (cl:=[]) (ro:=[1]) hE hO hM hS oI HS (Aq e) ?_
 rewrite [Lf n e]
 rw[sr] at hp
 have f0:=dV e
 have f1:=λ i (h:i<e.M.length)=>sq ar zE e.M i h
 have f2:=λ i (h:i<e.M.length)=>cq zE e.M i h
 have f3:=λ i (h:i<e.M.length)=>fJ zE e.M i h
 have f4:e.M.take 0=[]:=by simp
 have f5:∀ i,e.M.length<=i->e.M.take i=e.M:=λ i h=>a9d h
 have f6:∀ i,(e.M.take i).length<=e.M.length:=λ i=>by simp;omega
 have f7:∀ ks,ks=e.M->J.mk e.ak e.aI ks=e:=λ ks h=>by subst h;cases e;rfl
 refine λ _ _ _ _=>⟨⟨0,?_,⟨trivial,trivial,rfl,rfl,?_,trivial⟩,⟨rfl,rfl,trivial,trivial⟩,?_,⟨rfl,rfl,trivial,trivial⟩,trivial⟩,λ i1 _=>⟨λ _=>⟨?_,⟨?_,?_⟩,?_,⟨rfl,rfl,rfl,?_⟩,?_,⟨?_,?_⟩,?_,⟨?_,?_⟩,?_,?_,?_,i1+1,?_,?_,⟨trivial,trivial,rfl,rfl,?_,trivial⟩,⟨rfl,rfl,trivial,trivial⟩,?_,⟨rfl,rfl,trivial,trivial⟩,trivial⟩,λ _=>?_⟩⟩
 all_goals try and_intros
 all_goals try (first|with_reducible rfl|with_reducible assumption)
 all_goals try simp only[J.eta,ae.eta,aj.eta,aP,bM,cn] at *
 all_goals first|rfl|trivial|omega|(simp only[a8p,a8q,aw,O,br,a8C,a8N] at *;first|omega|(have:=f6 i1;omega)|exact f7 _ (f5 _ (by omega))|grind)|grind
theorem PR:∀ n,fW [jH n]
 | 0=>⟨⟨aA oI rfl (by decide),λ _ h=>absurd h.1 (a9p _)⟩,trivial⟩
 | n+1=>by
  have ih:=PR n
  exact⟨KW n trivial ⟨ih.1,trivial⟩ trivial trivial,trivial⟩
theorem vy:aJ.eA fH :=
 ⟨aA oI rfl (by decide),λ e hp=>(PR (cz e+1)).1.2 e (⟨a9h _,hp⟩)⟩
end
end Go.Proofs.YtmjfpcajohhbeaaGreatDoor

set_option maxRecDepth 4000
set_option maxHeartbeats 4000000
namespace Go.Proofs.YtmjfpcajohhbeaaGreatDoor
noncomputable section
def mD(n:Nat):aJ:=⟨pk,[.r (.st .expr)],λ (e:J)=>⟨(some (cz e<n/\ar e<=1048576),[⟨(.st .expr),e⟩])⟩⟩
def dI:aJ:=⟨pk,[.r (.st .expr)],λ (e:J)=>⟨(some (ar e<=1048576),[⟨(.st .expr),e⟩])⟩⟩
def EK(e:J):Nat->aH:=(λ zb=>if Nat.beq zb 0 then .mk (Nat) (λ i=>i<=e.M.length) (λ i=>e.M.length - i) [] [1,5,6,7,8,9,10,11,12,13] (λ i=>[(4, .aW ⟨(.int .i64),((i:Int):Int)⟩)]) [0,2,4,14,15,16,17,18,19,20,21,22,23,24,25,26,27,28,29,30,31,32,33,34,35] (λ i=>[(3, .box [.aW ⟨(.int .i64),(e.ak:Int)⟩, .aW ⟨(.int .i64),(e.aI:Int)⟩, .aE 3400]),(3400, .aE (.st .expr) (e.M.take i:List J))]) [] [] (λ i=>λ _ => .none) else .none)
theorem PD(n:Nat)(e:J):ck (cY [] [mD n] [] [31,32,33] []) (au lT) (EK e) 0 (fI (cY [] [mD n] [] [31,32,33] []) lT λ r=>bp r [⟨(.st .expr),e⟩]) (jN lT [.ref ⟨(.st .expr),e⟩]) =
 ((O e.ak ->
 (O e.aI ->
 ((∃ i1:Nat,(i1<=e.M.length/\((e=e/\(True/\(True/\((0:Int)=(i1:Int)/\True))))/\((e.ak=e.ak/\(e.aI=e.aI/\(True/\True)))/\((e.M.take i1)=[]/\(((0:Int)=(0:Int)/\((0:Int)=(0:Int)/\(True/\True)))/\True))))))/\(∀ i1:Nat,(i1<=e.M.length ->
 (e.M.length<=140737488355328 ->
 (O ((e.M.length:Int)) ->
 (((decide ((i1:Int)<((e.M.length:Int))))=true ->
 (e.M.length<=140737488355328 ->
 (O (i1:Int) ->
 (aw (i1:Int) e.M.length/\(((3:Nat)=3/\(2:Nat)=2)/\((3400:Nat)=3400/\(e=e/\(e=e/\(e.M=e.M/\(e.M=e.M/\((i1:Int)=(i1:Int)/\(aw (i1:Int) e.M.length/\((e.M.getD i1 zE)=(e.M.getD i1 zE)/\((cz (e.M.getD i1 zE)<n/\ar (e.M.getD i1 zE)<=1048576)/\(((3:Nat)=3/\(2:Nat)=2)/\((3400:Nat)=3400/\(((3:Nat)=3/\(2:Nat)=2)/\((3400:Nat)=3400/\(br ((e.M.take i1).length+([(ag (e.M.getD i1 zE))]).length) 40/\(O ((i1:Int)+(1:Int))/\(∃ i2:Nat,(i2<=e.M.length/\(e.M.length - i2<e.M.length - i1/\((e=e/\(True/\(True/\(((i1:Int)+(1:Int))=(i2:Int)/\True))))/\((e.ak=e.ak/\(e.aI=e.aI/\(True/\True)))/\(((e.M.take i1)++([(ag (e.M.getD i1 zE))]))=(e.M.take i2)/\(((0:Int)=(0:Int)/\((0:Int)=(0:Int)/\(True/\True)))/\True)))))))))))))))))))))))))))/\((decide ((i1:Int)<((e.M.length:Int))))=false ->
 (J.mk e.ak e.aI (e.M.take i1))=e)))))))))):=by kernel_rfl
theorem O3(n:Nat)(hE:aG [])(hO:fW [mD n])(hM:gZ [])(hS:fX []):aJ.eA (mD (n+1)):=by
 refine⟨aA qN rfl (by decide),?_⟩
 show ∀ (e:J),(cz e<n+1/\ar e<=1048576)->iI prog pk [.ref ⟨(.st .expr),e⟩] [⟨(.st .expr),e⟩]
 intro e hp
 refine ec (own:=[31,32,33]) (wr:=[]) (cl:=[]) (ro:=[]) hE hO hM hS qN LO (EK e) ?_
 rewrite [PD n e]
 rw[sr] at hp
 have f0:=dV e
 have f1:=λ i (h:i<e.M.length)=>sq ar zE e.M i h
 have f2:=λ i (h:i<e.M.length)=>cq zE e.M i h
 have f3:=λ i (h:i<e.M.length)=>fJ zE e.M i h
 have f4:e.M.take 0=[]:=by simp
 have f5:∀ i,e.M.length<=i->e.M.take i=e.M:=λ i h=>a9d h
 have f6:∀ i,(e.M.take i).length<=e.M.length:=λ i=>by simp;omega
 have f7:∀ ks,ks=e.M->J.mk e.ak e.aI ks=e:=λ ks h=>by subst h;cases e;rfl
 refine λ _ _=>⟨⟨0,?_,⟨rfl,trivial,trivial,?_,trivial⟩,⟨rfl,rfl,trivial,trivial⟩,?_,⟨rfl,rfl,trivial,trivial⟩,trivial⟩,λ i1 _ _ _=>⟨λ _ _ _=>⟨?_,⟨?_,?_⟩,?_,rfl,rfl,rfl,rfl,rfl,?_,rfl,?_,⟨?_,?_⟩,?_,⟨?_,?_⟩,?_,?_,?_,i1+1,?_,?_,⟨rfl,trivial,trivial,?_,trivial⟩,⟨rfl,rfl,trivial,trivial⟩,?_,⟨rfl,rfl,trivial,trivial⟩,trivial⟩,λ _=>?_⟩⟩
 all_goals try and_intros
 all_goals try (first|with_reducible rfl|with_reducible assumption)
 all_goals try simp only[J.eta,ae.eta,aj.eta,aP,bM,cn] at *
 all_goals first|rfl|trivial|omega|(simp only[a8p,a8q,aw,O,br,a8C,a8N] at *;first|omega|(have:=f6 i1;omega)|exact f7 _ (f5 _ (by omega))|grind)|grind
theorem RF:∀ n,fW [mD n]
 | 0=>⟨⟨aA qN rfl (by decide),λ _ h=>absurd h.1 (a9p _)⟩,trivial⟩
 | n+1=>by
  have ih:=RF n
  exact⟨O3 n trivial ⟨ih.1,trivial⟩ trivial trivial,trivial⟩
theorem rF:aJ.eA dI :=
 ⟨aA qN rfl (by decide),λ e hp=>(RF (cz e+1)).1.2 e (⟨a9h _,hp⟩)⟩
theorem zS:aJ.Good dI:=rF.plain
mutual
theorem HK:∀ x:J,ar x+1=aF x
 | ⟨_,_,ks⟩=>by
  have:=TU ks
  simp only[ar,aF];omega
theorem TU:∀ xs:List J,xs.length+xq xs=df xs
 | []=>rfl
 | x::xs=>by
  have h1:=HK x
  have h2:=TU xs
  simp only[xq,df,a8C];omega
end
theorem Dx(gg:aO)(x:J)(h:cg gg x=true):ar x<=1048576:=by
 rw[xT] at h
 have:=HK x
 omega
end
end Go.Proofs.YtmjfpcajohhbeaaGreatDoor

namespace Go.Proofs
open Go.Shelf
def Tryz.MG:Go.Shelf.Ren:=⟨λ|169=>157|n=>n,λ|70=>193|9=>9|0=>0|72=>196|37=>194|127=>212|3=>3|5=>5|n=>n,λ|n=>n⟩
theorem Tryz.a2P:Go.Proofs.Lays.n169 Tryz.prog Tryz.MG:={
 mixed:=by kernel_rfl
 f169:=Tryz.func157.trans (congrArg some (by kernel_rfl))
 t0:=Tryz.underlying0
 a0:=Tryz.isAgg0
 z0:=Tryz.sizeOf0
 v0:=Tryz.zeroValue0
 t3:=Tryz.underlying3
 a3:=Tryz.isAgg3
 z3:=Tryz.sizeOf3
 v3:=Tryz.zeroValue3
 t9:=Tryz.underlying9
 a9:=Tryz.isAgg9
 z9:=Tryz.sizeOf9
 v9:=Tryz.zeroValue9
 t37:=Tryz.underlying194
 a37:=Tryz.isAgg194
 z37:=Tryz.sizeOf194
 v37:=Tryz.zeroValue194
 t70:=Tryz.underlying193
 a70:=Tryz.isAgg193
 z70:=Tryz.sizeOf193
 v70:=Tryz.zeroValue193
 t72:=Tryz.underlying196
 a72:=Tryz.isAgg196
 z72:=Tryz.sizeOf196
 v72:=Tryz.zeroValue196
 t127:=Tryz.underlying212
 a127:=Tryz.isAgg212
 z127:=Tryz.sizeOf212
 v127:=Tryz.zeroValue212 }
theorem Tryz.JA:Builder.Extra Tryz.prog Tryz.MG:={
 sizeBuilder:=by kernel_rfl
 liesBuilder:=by kernel_rfl
 t5:=Tryz.underlying5
 a5:=Tryz.isAgg5
 z5:=Tryz.sizeOf5
 v5:=Tryz.zeroValue5
 infoByte:=by kernel_rfl
 cellsByte:=by kernel_rfl
 sizeByte:=by kernel_rfl
 neB5:=by decide }
open Go.RowKit in
theorem Tryz.Builder_String_any(B b:Nat)(l:List UInt8)(w:World)(h:Lib.IsBuilder 196 5 B b (Lib.byteCells l) w)(kZ:B<=w.heap.size) :
  Calls Tryz.prog 157 #[.pointer (some ⟨b,0,none⟩)] w λ e w'=>e = .returned (.string ⟨l.toArray⟩)/\Below B w w':=Any.Builder_String_any Tryz.a2P Tryz.JA B b l w h kZ
def Tryz.WB:Go.Shelf.Ren:=⟨λ|246=>175|283=>176|284=>177|285=>178|286=>179|129=>181|317=>180|318=>182|319=>183|320=>184|337=>185|338=>186|n=>n,λ|2=>2|3=>3|9=>9|4=>4|171=>220|0=>0|53=>221|37=>194|5=>5|173=>224|212=>227|51=>213|20=>20|213=>228|46=>203|232=>232|233=>233|n=>n,λ|17=>1|18=>2|19=>3|n=>n⟩
theorem Tryz.a2Q:Go.Proofs.Lays.n246 Tryz.prog Tryz.WB:={
 mixed:=by kernel_rfl
 f129:=Tryz.func181.trans (congrArg some (by kernel_rfl))
 f246:=Tryz.func175.trans (congrArg some (by kernel_rfl))
 f283:=Tryz.func176.trans (congrArg some (by kernel_rfl))
 f284:=Tryz.func177.trans (congrArg some (by kernel_rfl))
 f285:=Tryz.func178.trans (congrArg some (by kernel_rfl))
 f286:=Tryz.func179.trans (congrArg some (by kernel_rfl))
 f317:=Tryz.func180.trans (congrArg some (by kernel_rfl))
 f318:=Tryz.func182.trans (congrArg some (by kernel_rfl))
 f319:=Tryz.func183.trans (congrArg some (by kernel_rfl))
 f320:=Tryz.func184.trans (congrArg some (by kernel_rfl))
 f337:=Tryz.func185.trans (congrArg some (by kernel_rfl))
 f338:=Tryz.func186.trans (congrArg some (by kernel_rfl))
 t0:=Tryz.underlying0
 a0:=Tryz.isAgg0
 z0:=Tryz.sizeOf0
 v0:=Tryz.zeroValue0
 t2:=Tryz.underlying2
 a2:=Tryz.isAgg2
 z2:=Tryz.sizeOf2
 v2:=Tryz.zeroValue2
 t3:=Tryz.underlying3
 a3:=Tryz.isAgg3
 z3:=Tryz.sizeOf3
 v3:=Tryz.zeroValue3
 t4:=Tryz.underlying4
 a4:=Tryz.isAgg4
 z4:=Tryz.sizeOf4
 v4:=Tryz.zeroValue4
 t5:=Tryz.underlying5
 a5:=Tryz.isAgg5
 z5:=Tryz.sizeOf5
 v5:=Tryz.zeroValue5
 t9:=Tryz.underlying9
 a9:=Tryz.isAgg9
 z9:=Tryz.sizeOf9
 v9:=Tryz.zeroValue9
 t20:=Tryz.underlying20
 a20:=Tryz.isAgg20
 z20:=Tryz.sizeOf20
 v20:=Tryz.zeroValue20
 t37:=Tryz.underlying194
 a37:=Tryz.isAgg194
 z37:=Tryz.sizeOf194
 v37:=Tryz.zeroValue194
 t46:=Tryz.underlying203
 a46:=Tryz.isAgg203
 z46:=Tryz.sizeOf203
 v46:=Tryz.zeroValue203
 t51:=Tryz.underlying213
 a51:=Tryz.isAgg213
 z51:=Tryz.sizeOf213
 v51:=Tryz.zeroValue213
 t53:=Tryz.underlying221
 a53:=Tryz.isAgg221
 z53:=Tryz.sizeOf221
 v53:=Tryz.zeroValue221
 t171:=Tryz.underlying220
 a171:=Tryz.isAgg220
 z171:=Tryz.sizeOf220
 v171:=Tryz.zeroValue220
 t173:=Tryz.underlying224
 a173:=Tryz.isAgg224
 z173:=Tryz.sizeOf224
 v173:=Tryz.zeroValue224
 t212:=Tryz.underlying227
 a212:=Tryz.isAgg227
 z212:=Tryz.sizeOf227
 v212:=Tryz.zeroValue227
 t213:=Tryz.underlying228
 a213:=Tryz.isAgg228
 z213:=Tryz.sizeOf228
 t232:=Tryz.underlying232
 a232:=Tryz.isAgg232
 z232:=Tryz.sizeOf232
 v232:=Tryz.zeroValue232
 t233:=Tryz.underlying233
 a233:=Tryz.isAgg233
 z233:=Tryz.sizeOf233
 v233:=Tryz.zeroValue233
 g17:=by kernel_rfl
 g18:=by kernel_rfl
 g19:=by kernel_rfl }
open Go.RowKit Go.Sort Go.Lib in
theorem Tryz.internal_strconv_FormatInt_10_small(i:Nat)(hi:i<100)(w:World) :
  Calls Tryz.prog 175 #[.int .i64 i, .int .i64 10] w λ e w'=>e = .returned (.string ⟨(Lib.decDigits i).toArray⟩)/\w'=w:=Any.internal_strconv_FormatInt_10_small Tryz.a2Q i hi w
end Go.Proofs



set_option maxRecDepth 4000
set_option maxHeartbeats 4000000
namespace Go.Proofs.YtmjfpcajohhbeaaGreatDoor
open Go.RowKit Go.Proofs
theorem Xc:(Tryz.prog.info? 196).map (·.size)=some 2:=by kernel_rfl
theorem a2a:liesAt Tryz.prog Tryz.prog.depth 196 (2 / Tryz.prog.cellsOf 196) 0 196 1=true:=by kernel_rfl
theorem a1Z:(Tryz.prog.info? 5).map (λ i=>(i.zero,i.size,i.bytes))=some (some (.int .u8 0),1,1):=by kernel_rfl
def ly(b:Nat)(w w':World):Prop:=∀ k cs T fz,w.heap[k]?=some (.cells cs T fz)->T≠5->k≠b->w'.heap[k]?=w.heap[k]?
theorem ly.refl(b:Nat)(w:World):ly b w w:=λ _ _ _ _ _ _ _=>rfl
theorem ly.trans{b:Nat}{w w1 w2:World}(h:ly b w w1)(k:ly b w1 w2):ly b w w2:=λ i cs T fz hi hT hb=>by
 have e:=h i cs T fz hi hT hb
 rw[k i cs T fz (e.trans hi) hT hb,e]
theorem ly.setCell{b:Nat}{w w1:World}(h:ly b w w1)(o:Nat)(v:Value):ly b w (w1.setCell ⟨b,o,none⟩ v):=λ i cs T fz hi hT hb=>by
 rw[Below.heap_setCell w1 _ v i hb]
 exact h i cs T fz hi hT hb
theorem bI{w:World}{k:Nat}{x:Obj}(h:w.heap[k]?=some x):k<w.heap.size:=by
 rcases a9t k w.heap.size with h'|h'
 .exact h'
 .simp[a9S h'] at h
theorem ly.alloc{b:Nat}{w w1:World}(h:ly b w w1)(o:Obj):ly b w (w1.alloc o):=λ i cs T fz hi hT hb=>by
 have e:=h i cs T fz hi hT hb
 rw[<-e]
 exact Lib.alloc_old w1 o i (bI (e.trans hi))
set_option maxRecDepth 100000 in
theorem QA(b:Nat)(w:World)(h0:w.cell? ⟨b,0,none⟩=some (.pointer (some ⟨b,0,none⟩))) :
  Calls Tryz.prog 172 #[.pointer (some ⟨b,0,none⟩)] w λ e w'=>e = .returned (.tuple #[])/\w'=w:=by
 obtain⟨j,hj,_⟩:=a9m.1 Xc
 go_enter Tryz.func172,Tryz.ntmps172
 go_wp2
 rw[Lib.run_neq_ptr_same w _ Tryz.underlying193 hj]
 go_wp2
 go_end0
 exact⟨rfl,rfl⟩
set_option maxRecDepth 100000 in
theorem N5(b:Nat)(w:World)(h0:w.cell? ⟨b,0,none⟩=some (.pointer none))(Iy:w.shape? b=some (196,2))(hfz:w.frozen? ⟨b,0,none⟩=false) :
  Calls Tryz.prog 172 #[.pointer (some ⟨b,0,none⟩)] w λ e w'=>e = .returned (.tuple #[])/\w'=w.setCell ⟨b,0,none⟩ (.pointer (some ⟨b,0,none⟩)):=by
 obtain⟨j,hj,hjs⟩:=a9m.1 Xc
 go_enter Tryz.func172,Tryz.ntmps172
 go_wp2
 rw[Lib.run_to_unsafe w ⟨b,0,none⟩ Tryz.underlying193 Tryz.underlying217 hj (by rw[hjs];decide) Iy (Nat.zero_lt_succ 1)]
 simp only[Result.andThen]
 rw[b2a]
 go_wp2
 rw[run_callFunc_extern Tryz.func174 (by kernel_rfl) (by kernel_rfl) (by kernel_rfl) (e:=Extern.AbiNoEscape.same) (by kernel_rfl)]
 rw[Lib.run_noEscape]
 simp only[Result.andThen]
 rw[b2a]
 go_wp2
 rw[Lib.run_from_unsafe w ⟨b,0,none⟩ Tryz.underlying217 Tryz.underlying193 hj Iy a2a]
 simp only[Result.andThen]
 rw[b2a]
 go_wp2
 go_end0
 exact⟨rfl,rfl⟩
theorem YQ(B b:Nat)(bs:List Value)(w:World)(h:Lib.IsBuilder 196 5 B b bs w) :
  Calls Tryz.prog 172 #[.pointer (some ⟨b,0,none⟩)] w λ e w'=>e = .returned (.tuple #[])/\(Lib.BuilderAt 196 5 B b (.pointer (some ⟨b,0,none⟩)) bs w'/\Below B w w'/\ly b w w'):=by
 rcases h with h|h
 .refine (N5 b w h.cell0 h.shape h.frozen0).mono ?_
  rintro e w' ⟨rfl,rfl⟩
  exact⟨rfl,h.used _,(b1S B w).setCell (p:=⟨b,0,none⟩) h.1 _,(ly.refl b w).setCell 0 _⟩
 .refine (QA b w h.cell0).mono ?_
  rintro e w' ⟨rfl,rfl⟩
  exact⟨rfl,h,b1S B _,ly.refl b _⟩
set_option maxRecDepth 100000 in
theorem writeString(B b:Nat)(bs:List Value)(s:ByteArray)(w:World)(h:Lib.IsBuilder 196 5 B b bs w)(hlen:bs.length+s.size<=140737488355328)(kZ:B<=w.heap.size) :
  Calls Tryz.prog 167 #[.pointer (some ⟨b,0,none⟩), .string s] w λ e w'=>e = .returned (.tuple #[.int .i64 s.size, .nilIface])/\(Lib.IsBuilder 196 5 B b (bs++Lib.strCells s) w'/\Below B w w'/\ly b w w'):=by
 obtain⟨i0,hi,hz⟩:=a9m.1 a1Z
 simp only[a8u] at hz
 obtain⟨hz0,hz1,hz2⟩:=hz
 go_enter Tryz.func167,Tryz.ntmps167
 go_wp2_with (go_at_call 172;refine (YQ B b bs _ h).mono ?_)
 rintro e w1 ⟨rfl,h1,KB,Ol⟩
 obtain⟨hB,v,hbk,va,fG⟩:=h1
 have c0:w1.cell? ⟨b,0,none⟩=some (.pointer (some ⟨b,0,none⟩)):=by rw[b1i hbk];rfl
 have c1:w1.cell? ⟨b,1,none⟩=some v:=by rw[b1i hbk];rfl
 go_wp2_with (at_builtin;refine Lib.wpList_append_own_string _ rfl _ _ 194 9 rfl B 5 i0 Tryz.underlying194 Tryz.underlying9 hi hz0 hz1 hz2 _ _ _ rfl va s rfl ?c3 ?c4 ?c5 ?_)
 case c3=>unfold maxLen;omega
 case c4=>omega
 case c5=>have:=KB.size;omega
 intro v' w2 a2B Zc _
 have bS:b<w1.heap.size:=bI hbk
 have Oi:w2.heap[b]?=some (.cells #[.pointer (some ⟨b,0,none⟩),v] 196 (0,0)):=by
  rw[Zc.block b bS (λ e=>fG e.symm)]
  exact hbk
 have d0:w2.cell? ⟨b,0,none⟩=some (.pointer (some ⟨b,0,none⟩)):=by rw[b1i Oi];rfl
 have d1:w2.cell? ⟨b,1,none⟩=some v:=by rw[b1i Oi];rfl
 have f1:w2.frozen? ⟨b,1,none⟩=false:=Lib.frozen_of_heap Oi 1
 have hk2:ly b w1 w2:=λ i cs T fz hi hT hib=>Zc.block i (bI hi) λ e=>by
  rcases va.2 with ⟨hv,_⟩|⟨g,cap,cur,hv,_,hg,_⟩
  .rw[hv] at e;cases e
  .rw[hv] at e
   injection e with e
   subst e
   rw[hg] at hi
   simp only[a8o,Obj.cells.injEq] at hi
   exact hT hi.2.1.symm
 obtain⟨ao,n',cap,rfl⟩:∃ ao n' cap,v' = .slice ao n' cap:=by
  rcases a2B.2 with ⟨hv,_⟩|⟨g,cap,cur,hv,_⟩
  .exact⟨_,_,_,hv⟩
  .exact⟨_,_,_,hv⟩
 go_wp2
 go_ret2
 refine⟨rfl,?_,?_,?_⟩
 .exact Or.inr (Lib.BuilderAt.put (T:=196) (e:=5) hB Oi (bs':=bs++Lib.strCells s) (by simpa [Lib.strCells_length] using a2B) (by decide))
 .exact (KB.grown Zc (by have:=KB.size;omega) (λ k hk=>(va.lt k hk).1)).setCell (p:=⟨b,1,none⟩) hB _
 .exact (Ol.trans hk2).setCell 1 _
end Go.Proofs.YtmjfpcajohhbeaaGreatDoor

set_option maxRecDepth 4000
set_option maxHeartbeats 4000000
namespace Go.Proofs.YtmjfpcajohhbeaaGreatDoor
noncomputable section
open Go.RowKit Go.Proofs
def bt(n:Int):UInt8:=UInt8.ofNat n.toNat
def c7:aJ:=⟨fC,[.v .str, .v .str],λ (s:List UInt8) (p:List UInt8)=>⟨(none,[⟨.bool,decide (p.length<=s.length)&&decide (s.take p.length=p)⟩])⟩⟩
def jS(s:List UInt8)(p:List UInt8):Nat->aH:=λ _ => .none
theorem rL(s:List UInt8)(p:List UInt8):ck (aL []) (au cJ) (jS s p) 0 (bg (aL []) cJ λ r=>bp r [⟨.bool,decide (p.length<=s.length)&&decide (s.take p.length=p)⟩]) (aD cJ [.val ⟨.str,s⟩, .val ⟨.str,p⟩]) =
 ((O ((s.length:Int)) ->
 (O ((p.length:Int)) ->
 (((decide (((p.length:Int))<=((s.length:Int))))=true ->
 (O ((p.length:Int)) ->
 (cW (0:Int) ((p.length:Int)) s.length/\(decide (((s.take (Int.toNat ((p.length:Int)))).drop 0)=p))=(decide (p.length<=s.length)&&decide (s.take p.length=p)))))/\((decide (((p.length:Int))<=((s.length:Int))))=(!true) ->
 false=(decide (p.length<=s.length)&&decide (s.take p.length=p))))))):=by kernel_rfl
theorem rG(hE:aG []):aJ.Good c7:=by
 refine⟨aA jy rfl (by decide),?_⟩
 show ∀ (s:List UInt8) (p:List UInt8),True->bh prog fC [.val ⟨.str,s⟩, .val ⟨.str,p⟩] (·=[⟨.bool,decide (p.length<=s.length)&&decide (s.take p.length=p)⟩])
 intro s p _
 refine aM (wr:=[]) (cl:=[]) (ro:=[]) hE jy qa (jS s p) ?_
 rewrite [rL s p]
 refine λ _ _=>⟨λ _ _=>⟨?_,?_⟩,λ _=>?_⟩
 all_goals try and_intros
 all_goals first|rfl|trivial|omega|(simp only[a8p,a8q,aw,O,cW,br,a8K,a8C,a8N] at *;first|omega|grind)|grind
theorem qb:aJ.Good c7:=rG trivial
def gU:aJ:=⟨po,[.v .str, .v .str],λ (s:List UInt8) (p:List UInt8)=>⟨(none,[⟨.bool,decide (p.length<=s.length)&&decide (s.take p.length=p)⟩])⟩⟩
def vr(s:List UInt8)(p:List UInt8):Nat->aH:=λ _ => .none
theorem Fv(s:List UInt8)(p:List UInt8):ck (aL [c7]) (au fj) (vr s p) 0 (bg (aL [c7]) fj λ r=>bp r [⟨.bool,decide (p.length<=s.length)&&decide (s.take p.length=p)⟩]) (aD fj [.val ⟨.str,s⟩, .val ⟨.str,p⟩]) =
 ((decide (p.length<=s.length)&&decide (s.take p.length=p))=(decide (p.length<=s.length)&&decide (s.take p.length=p))):=by kernel_rfl
theorem Fk(hE:aG [c7]):aJ.Good gU:=by
 refine⟨aA tB rfl (by decide),?_⟩
 show ∀ (s:List UInt8) (p:List UInt8),True->bh prog po [.val ⟨.str,s⟩, .val ⟨.str,p⟩] (·=[⟨.bool,decide (p.length<=s.length)&&decide (s.take p.length=p)⟩])
 intro s p _
 refine aM (wr:=[]) (cl:=[]) (ro:=[]) hE tB BY (vr s p) ?_
 rewrite [Fv s p]
 refine ?_
 all_goals try and_intros
 all_goals first|rfl|trivial|omega|(simp only[a8p,a8q,aw,O,cr,cW,cH,br] at *;omega)|(simp[aw,O] at *;omega)|grind
theorem Ca:aJ.Good gU:=Fk ⟨qb,trivial⟩
end
end Go.Proofs.YtmjfpcajohhbeaaGreatDoor

set_option maxRecDepth 4000
set_option maxHeartbeats 4000000
namespace Go.Proofs.YtmjfpcajohhbeaaGreatDoor
noncomputable section
def gH(b:UInt8):Bool:=decide (48<=b.toNat)&&decide (b.toNat<=57)
def hJ(s:List UInt8):Int:=s.foldl (λ n b=>n * 10+((b.toNat:Int) - 48)) 0
def kU(m:Int)(s:List UInt8):Bool:=decide (1<=s.length)&&decide ((s.length:Int)<=m) && !(decide (1<s.length)&&decide ((s.getD 0 0).toNat=48))&&bq gH s
def il(m:Int)(s:List UInt8):Int:=bif kU m s then hJ s else 0
theorem Sd(s:List UInt8)(k:Nat)(h:k<s.length):hJ (s.take (k+1))=hJ (s.take k) * 10+(((s.getD k 0).toNat:Int) - 48):=by
 rw[fJ 0 s k h]
 simp[hJ,List.foldl_append]
theorem Xj:∀ (k:Nat) (s:List UInt8),k<=s.length->bq gH (s.take k)=true->0<=hJ (s.take k)/\hJ (s.take k)<10 ^ k
 | 0,s,_,_=>by simp[hJ]
 | k+1,s,h,ha=>by
  have h1:=dy gH 0 s k (by omega)
  rw[ha] at h1
  have h1':=h1.symm
  simp only[a8r] at h1'
  obtain⟨h2,h3⟩:=h1'
  have ih:=Xj k s (by omega) h2
  rw[Sd s k (by omega)]
  simp only[gH,a8r,a8p] at h3
  have:(10:Int) ^ (k+1)=10 ^ k * 10:=by rw[Int.pow_succ]
  omega
theorem Xk(s:List UInt8)(k:Nat)(h:k<=s.length)(h9:s.length<=9)(ha:bq gH (s.take k)=true):0<=hJ (s.take k)/\hJ (s.take k)<=1000000000:=by
 have:=Xj k s h ha
 have h2:(10:Int) ^ k<=10 ^ 9:=by
  have:(10:Nat) ^ k<=10 ^ 9:=Nat.pow_le_pow_right (by decide) (by omega)
  exact_mod_cast this
 omega
theorem Z3(s:List UInt8)(k:Nat):gH (s.getD k 0)=(decide (48<=(s.getD k 0).toNat)&&decide ((s.getD k 0).toNat<=57)):=rfl
theorem a4n:IntKind.u8.min=0:=rfl
theorem a4m:IntKind.u8.max=255:=rfl
theorem Zp(n:Int):cr .u8 n↔0<=n/\n<=255:=b0w
theorem Wu(n:Int):cr .i64 n↔O n:=b0w
theorem CI(m:Int)(s:List UInt8):kU m s=(decide (1<=s.length)&&decide ((s.length:Int)<=m) && !(decide (1<s.length)&&decide ((s.getD 0 0).toNat=48))&&bq gH s):=rfl
theorem a0n(m:Int)(s:List UInt8)(h:¬ (1<=s.length/\(s.length:Int)<=m/\¬ (1<s.length/\(s.getD 0 0).toNat=48))):il m s=0/\kU m s=false:=by
 have e:kU m s=false:=by
  cases hb:kU m s with
  | false=>rfl
  | true =>
   rw[CI] at hb
   simp only[a8r,a8p,a8J,b0Z,a8q] at hb
   exact absurd ⟨hb.1.1.1,hb.1.1.2,λ h=>by rcases hb.1.2 with g|g<;>omega⟩ h
 exact⟨by simp[il,e],e⟩
structure GN(m:Int)(s:List UInt8)(k:Nat):Prop where
 len:k<=s.length/\s.length<=9
 ok:1<=s.length/\(s.length:Int)<=m/\¬ (1<s.length/\(s.getD 0 0).toNat=48)
 all:bq gH (s.take k)=true
theorem a1e(m:Int)(s:List UInt8)(h:1<=s.length/\(s.length:Int)<=m/\¬ (1<s.length/\(s.getD 0 0).toNat=48))(hm:m<=9):GN m s 0 :=
 ⟨⟨by omega,by omega⟩,h,by simp[bq]⟩
theorem X3(m:Int)(s:List UInt8)(k:Nat)(h:GN m s k)(hk:k<s.length)(hb:(s.getD k 0).toNat<48\/57<(s.getD k 0).toNat):il m s=0/\kU m s=false:=by
 have e:bq gH s=false:=dW gH 0 s k hk (by rw[Z3,b0Z,a8q,a8q];omega)
 have e':kU m s=false:=by rw[CI,e];simp
 exact⟨by simp[il,e'],e'⟩
theorem Oz(m:Int)(s:List UInt8)(k:Nat)(h:GN m s k)(hk:k<s.length)(h1:48<=(s.getD k 0).toNat)(h2:(s.getD k 0).toNat<=57):GN m s (k+1)/\hJ (s.take (k+1))=hJ (s.take k) * 10+(((s.getD k 0).toNat:Int) - 48) :=
 ⟨⟨⟨hk,h.len.2⟩,h.ok,by rw[dy gH 0 s k hk,h.all,Z3,a8W h1,a8W h2];rfl⟩,Sd s k hk⟩
theorem X4(m:Int)(s:List UInt8)(k:Nat)(h:GN m s k)(hk:s.length<=k):il m s=hJ (s.take k)/\kU m s=true:=by
 have e:s.take k=s:=a9d hk
 have ha:=h.all
 rw[e] at ha
 have e':kU m s=true:=by
  rw[CI,ha]
  have:=h.ok
  simp only[a8r,a8p,a8J,b0Z,a8q]
  exact⟨⟨⟨this.1,this.2.1⟩,(a9t 1 s.length).elim (λ g => .inr (by omega)) (λ g => .inl (by omega))⟩,trivial⟩
 exact⟨by rw[e];simp[il,e'],e'⟩
theorem a3X(m:Int)(s:List UInt8)(k:Nat)(h:GN m s k):k<=s.length/\0<=hJ (s.take k)/\hJ (s.take k)<=1000000000 :=
 ⟨h.len.1,Xk s k h.len.1 h.len.2 h.all⟩
def kM:aJ:=⟨th,[.v .str],λ (s:List UInt8)=>⟨(none,[⟨(.int .i64),il 9 s⟩,⟨.bool,kU 9 s⟩])⟩⟩
def Ao(s:List UInt8):Nat->aH:=(λ zb=>if Nat.beq zb 0 then .mk (Nat) (λ k=>GN 9 s k) (λ k=>s.length - k) [] [1,6,7,8,9,10,11,12,13,14,15,16,17,18,19,20,21,22,23] (λ k=>[(5, .aW ⟨(.int .i64),((k:Int):Int)⟩),(4, .aW ⟨(.int .i64),(hJ (s.take k):Int)⟩)]) [0,2,3,4,5,24,25,26,27,28,29,30,31,32,33,34,35,36,37,38,39,40,41,42,43,44,45,46,47,48] (λ k=>[]) [] [] (λ k=>λ _ => .none) else .none)
abbrev wI(s:List UInt8)(k1:Nat):Prop:=(O ((hJ (s.take k1)) * (10:Int))/\(aw (k1:Int) s.length/\(cr .u8 ((((s.getD k1 0).toNat:Int)) - (48:Int))/\(O ((((s.getD k1 0).toNat:Int)) - (48:Int))/\(O (((hJ (s.take k1)) * (10:Int))+((((s.getD k1 0).toNat:Int)) - (48:Int)))/\(O ((k1:Int)+(1:Int))/\(∃ k2:Nat,(GN 9 s k2/\(s.length - k2<s.length - k1/\((s=s/\((((hJ (s.take k1)) * (10:Int))+((((s.getD k1 0).toNat:Int)) - (48:Int)))=(hJ (s.take k2))/\(((k1:Int)+(1:Int))=(k2:Int)/\True)))/\True))))))))))
abbrev lq(s:List UInt8):Prop:=((∃ k1:Nat,(GN 9 s k1/\((s=s/\((0:Int)=(hJ (s.take k1))/\((0:Int)=(k1:Int)/\True)))/\True)))/\(∀ k1:Nat,(GN 9 s k1 ->
 (O ((s.length:Int)) ->
 (((decide ((k1:Int)<((s.length:Int))))=true ->
 (aw (k1:Int) s.length/\(((decide ((((s.getD k1 0).toNat:Int))<(48:Int)))=false ->
 (aw (k1:Int) s.length/\(((decide ((57:Int)<(((s.getD k1 0).toNat:Int))))=true ->
 ((0:Int)=(il 9 s)/\false=(kU 9 s)))/\((decide ((57:Int)<(((s.getD k1 0).toNat:Int))))=false ->
 (wI s k1)))))/\((decide ((((s.getD k1 0).toNat:Int))<(48:Int)))=(!false) ->
 ((true=true ->
 ((0:Int)=(il 9 s)/\false=(kU 9 s)))/\(true=false ->
 (wI s k1)))))))/\((decide ((k1:Int)<((s.length:Int))))=false ->
 ((hJ (s.take k1))=(il 9 s)/\true=(kU 9 s))))))))
abbrev wJ(s:List UInt8):Prop:=(aw (0:Int) s.length/\(((decide ((((s.getD 0 0).toNat:Int))=(48:Int)))=true ->
 (O ((s.length:Int)) ->
 (((decide ((1:Int)<((s.length:Int))))=true ->
 ((0:Int)=(il 9 s)/\false=(kU 9 s)))/\((decide ((1:Int)<((s.length:Int))))=false ->
 (lq s)))))/\((decide ((((s.getD 0 0).toNat:Int))=(48:Int)))=(!true) ->
 ((false=true ->
 ((0:Int)=(il 9 s)/\false=(kU 9 s)))/\(false=false ->
 (lq s))))))
theorem Le(s:List UInt8):ck (aL []) (au ib) (Ao s) 0 (bg (aL []) ib λ r=>bp r [⟨(.int .i64),il 9 s⟩,⟨.bool,kU 9 s⟩]) (aD ib [.val ⟨.str,s⟩]) =
 ((O ((s.length:Int)) ->
 (((decide (((s.length:Int))<(1:Int)))=false ->
 (O ((s.length:Int)) ->
 (((decide ((9:Int)<((s.length:Int))))=false ->
 (wJ s))/\((decide ((9:Int)<((s.length:Int))))=(!false) ->
 ((true=true ->
 ((0:Int)=(il 9 s)/\false=(kU 9 s)))/\(true=false ->
 (lq s)))))))/\((decide (((s.length:Int))<(1:Int)))=(!false) ->
 ((true=false ->
 (wJ s))/\(true=(!false) ->
 ((true=true ->
 ((0:Int)=(il 9 s)/\false=(kU 9 s)))/\(true=false ->
 (lq s))))))))):=by kernel_rfl
theorem KV(hE:aG []):aJ.Good kM:=by
 refine⟨aA xA rfl (by decide),?_⟩
 show ∀ (s:List UInt8),True->bh prog th [.val ⟨.str,s⟩] (·=[⟨(.int .i64),il 9 s⟩,⟨.bool,kU 9 s⟩])
 intro s _
 refine aM (wr:=[]) (cl:=[]) (ro:=[]) hE xA FL (Ao s) ?_
 rewrite [Le s]
 have f1:hJ (s.take 0)=0:=by simp[hJ]
 refine λ _=>⟨λ _ _=>⟨λ _=>⟨?_,λ _ _=>⟨λ _=>⟨?_,?_⟩,λ _=>⟨⟨0,?_,⟨rfl,?_,?_,trivial⟩,trivial⟩,λ k1 _ _=>⟨λ _=>⟨?_,λ _=>⟨?_,λ _=>⟨?_,?_⟩,λ _=>⟨?_,?_,?_,?_,?_,?_,k1+1,?_,?_,⟨rfl,?_,?_,trivial⟩,trivial⟩⟩,λ _=>⟨λ _=>⟨?_,?_⟩,λ _=>⟨?_,?_,?_,?_,?_,?_,k1+1,?_,?_,⟨rfl,?_,?_,trivial⟩,trivial⟩⟩⟩,λ _=>⟨?_,?_⟩⟩⟩⟩,λ _=>⟨λ _=>⟨?_,?_⟩,λ _=>⟨⟨0,?_,⟨rfl,?_,?_,trivial⟩,trivial⟩,λ k1 _ _=>⟨λ _=>⟨?_,λ _=>⟨?_,λ _=>⟨?_,?_⟩,λ _=>⟨?_,?_,?_,?_,?_,?_,k1+1,?_,?_,⟨rfl,?_,?_,trivial⟩,trivial⟩⟩,λ _=>⟨λ _=>⟨?_,?_⟩,λ _=>⟨?_,?_,?_,?_,?_,?_,k1+1,?_,?_,⟨rfl,?_,?_,trivial⟩,trivial⟩⟩⟩,λ _=>⟨?_,?_⟩⟩⟩⟩⟩,λ _=>⟨λ _=>⟨?_,?_⟩,λ _=>⟨⟨0,?_,⟨rfl,?_,?_,trivial⟩,trivial⟩,λ k1 _ _=>⟨λ _=>⟨?_,λ _=>⟨?_,λ _=>⟨?_,?_⟩,λ _=>⟨?_,?_,?_,?_,?_,?_,k1+1,?_,?_,⟨rfl,?_,?_,trivial⟩,trivial⟩⟩,λ _=>⟨λ _=>⟨?_,?_⟩,λ _=>⟨?_,?_,?_,?_,?_,?_,k1+1,?_,?_,⟨rfl,?_,?_,trivial⟩,trivial⟩⟩⟩,λ _=>⟨?_,?_⟩⟩⟩⟩⟩,λ _=>⟨λ _=>⟨?_,λ _ _=>⟨λ _=>⟨?_,?_⟩,λ _=>⟨⟨0,?_,⟨rfl,?_,?_,trivial⟩,trivial⟩,λ k1 _ _=>⟨λ _=>⟨?_,λ _=>⟨?_,λ _=>⟨?_,?_⟩,λ _=>⟨?_,?_,?_,?_,?_,?_,k1+1,?_,?_,⟨rfl,?_,?_,trivial⟩,trivial⟩⟩,λ _=>⟨λ _=>⟨?_,?_⟩,λ _=>⟨?_,?_,?_,?_,?_,?_,k1+1,?_,?_,⟨rfl,?_,?_,trivial⟩,trivial⟩⟩⟩,λ _=>⟨?_,?_⟩⟩⟩⟩,λ _=>⟨λ _=>⟨?_,?_⟩,λ _=>⟨⟨0,?_,⟨rfl,?_,?_,trivial⟩,trivial⟩,λ k1 _ _=>⟨λ _=>⟨?_,λ _=>⟨?_,λ _=>⟨?_,?_⟩,λ _=>⟨?_,?_,?_,?_,?_,?_,k1+1,?_,?_,⟨rfl,?_,?_,trivial⟩,trivial⟩⟩,λ _=>⟨λ _=>⟨?_,?_⟩,λ _=>⟨?_,?_,?_,?_,?_,?_,k1+1,?_,?_,⟨rfl,?_,?_,trivial⟩,trivial⟩⟩⟩,λ _=>⟨?_,?_⟩⟩⟩⟩⟩,λ _=>⟨λ _=>⟨?_,?_⟩,λ _=>⟨⟨0,?_,⟨rfl,?_,?_,trivial⟩,trivial⟩,λ k1 _ _=>⟨λ _=>⟨?_,λ _=>⟨?_,λ _=>⟨?_,?_⟩,λ _=>⟨?_,?_,?_,?_,?_,?_,k1+1,?_,?_,⟨rfl,?_,?_,trivial⟩,trivial⟩⟩,λ _=>⟨λ _=>⟨?_,?_⟩,λ _=>⟨?_,?_,?_,?_,?_,?_,k1+1,?_,?_,⟨rfl,?_,?_,trivial⟩,trivial⟩⟩⟩,λ _=>⟨?_,?_⟩⟩⟩⟩⟩⟩
 all_goals try and_intros
 all_goals first|rfl|trivial|omega|((try simp only[a8x,a8v,a8p,a8q,aw,Zp,Wu,O,a4n,a4m] at *);first|omega|exact (a0n 9 s (by omega)).1.symm|exact (a0n 9 s (by omega)).2.symm|exact a1e 9 s (by omega) (by omega)|(have hq:GN 9 s k1:=(by with_reducible assumption);have hl:=a3X 9 s k1 hq;first|omega|exact (X3 9 s k1 hq (by omega) (by omega)).1.symm|exact (X3 9 s k1 hq (by omega) (by omega)).2.symm|exact (Oz 9 s k1 hq (by omega) (by omega) (by omega)).1|exact (Oz 9 s k1 hq (by omega) (by omega) (by omega)).2.symm|(rw[(Oz 9 s k1 hq (by omega) (by omega) (by omega)).2];omega)|exact (X4 9 s k1 hq (by omega)).1.symm|exact (X4 9 s k1 hq (by omega)).2.symm))
theorem F9:aJ.Good kM:=KV trivial
def pZ(b n:Int):Bool:=decide (0<=n/\n<=b - 1)
theorem a2F(b n:Int):pZ b n=decide (0<=n/\n<=b - 1):=rfl
def nG:aJ:=⟨vW,[.v (.slice (.int .i64)), .v (.int .i64)],λ (xs:List Int) (below:Int)=>⟨(some (0<=below/\below<=4096),[⟨.bool,bq (pZ below) xs⟩])⟩⟩
def Ek(xs:List Int)(below:Int):Nat->aH:=(λ zb=>if Nat.beq zb 0 then .mk (Nat) (λ k=>k<=xs.length/\bq (pZ below) (xs.take k)=true) (λ k=>xs.length - k) [] [0,2,3,5] (λ k=>[(9, .aW ⟨(.int .i64),((k:Int):Int)⟩)]) [1,4,6,7,8,9,10,11,12,13,14,15,16,17,18] (λ k=>[]) [] [] (λ k=>λ _ => .none) else .none)
theorem Pb(xs:List Int)(below:Int):ck (aL [cp]) (au jV) (Ek xs below) 0 (bg (aL [cp]) jV λ r=>bp r [⟨.bool,bq (pZ below) xs⟩]) (aD jV [.val ⟨(.slice (.int .i64)),xs⟩, .val ⟨(.int .i64),below⟩]) =
 ((O ((xs.length:Int)) ->
 ((∃ k1:Nat,((k1<=xs.length/\bq (pZ below) (xs.take k1)=true)/\((below=below/\(xs=xs/\(((xs.length:Int))=((xs.length:Int))/\((0:Int)=(k1:Int)/\True))))/\True)))/\(∀ k1:Nat,((k1<=xs.length/\bq (pZ below) (xs.take k1)=true) ->
 (((decide ((k1:Int)<((xs.length:Int))))=true ->
 (aw (k1:Int) xs.length/\(O (xs.getD k1 (0:Int)) ->
 (O (below - (1:Int))/\((((!(decide ((0:Int)<=(xs.getD k1 (0:Int))/\(xs.getD k1 (0:Int))<=(below - (1:Int)))))=true) ->
 false=(bq (pZ below) xs))/\(((!(decide ((0:Int)<=(xs.getD k1 (0:Int))/\(xs.getD k1 (0:Int))<=(below - (1:Int)))))=false) ->
 (O ((k1:Int)+(1:Int))/\(∃ k2:Nat,((k2<=xs.length/\bq (pZ below) (xs.take k2)=true)/\(xs.length - k2<xs.length - k1/\((below=below/\(xs=xs/\(((xs.length:Int))=((xs.length:Int))/\(((k1:Int)+(1:Int))=(k2:Int)/\True))))/\True)))))))))))/\((decide ((k1:Int)<((xs.length:Int))))=false ->
 true=(bq (pZ below) xs)))))))):=by kernel_rfl
theorem OD(hE:aG [cp]):aJ.Good nG:=by
 refine⟨aA Bz rfl (by decide),?_⟩
 show ∀ (xs:List Int) (below:Int),(0<=below/\below<=4096)->bh prog vW [.val ⟨(.slice (.int .i64)),xs⟩, .val ⟨(.int .i64),below⟩] (·=[⟨.bool,bq (pZ below) xs⟩])
 intro xs below hp
 refine aM (wr:=[]) (cl:=[]) (ro:=[]) hE Bz JG (Ek xs below) ?_
 rewrite [Pb xs below]
 have f0:=all_zero (pZ below) xs
 refine λ _=>⟨⟨0,?_,⟨rfl,rfl,rfl,?_,trivial⟩,trivial⟩,λ k1 _=>have RZ:=dy (pZ below) 0 xs k1;have R0:=dW (pZ below) 0 xs k1;have R1:=eI (pZ below) xs k1;have ZW:=a2F below (xs.getD k1 0);⟨λ _=>⟨?_,λ _=>⟨?_,λ _=>?_,λ _=>⟨?_,k1+1,?_,?_,⟨rfl,rfl,rfl,?_,trivial⟩,trivial⟩⟩⟩,λ _=>?_⟩⟩
 all_goals try and_intros
 all_goals first|rfl|trivial|omega|(simp only[decide_eq_true_eq,decide_eq_false_iff_not,aw,O] at *;first|omega|grind)|grind [aw,O]
theorem Kd:aJ.Good nG:=OD ⟨ie,trivial⟩
end
end Go.Proofs.YtmjfpcajohhbeaaGreatDoor

set_option maxRecDepth 4000
set_option maxHeartbeats 4000000
namespace Go.Proofs.YtmjfpcajohhbeaaGreatDoor
noncomputable section
def zf(x:J)(ps:List Int):J:=bif eH x ps then dd x ps else J.mk (0:Int) (0:Int) []
def xe(x:J)(ps:List Int):Bool:=eH x ps&&qm x ps
theorem Bt.no{x:J}{ks:List Int}{k:Nat}(h:Bt x ks k)(hk:k<ks.length)(hb:¬ (0<=ks.getD k 0/\ks.getD k 0<=((dd x (ks.take k)).M.length:Int) - 1)):zf x ks=J.mk (0:Int) (0:Int) []/\xe x ks=false/\eH x ks=false:=by
 have:=h.bad hk hb
 unfold zf xe
 rw[this];exact⟨rfl,rfl,rfl⟩
theorem Bt.yes{x:J}{ks:List Int}{k:Nat}(h:Bt x ks k)(hk:ks.length<=k):zf x ks=dd x (ks.take k)/\xe x ks=qm x (ks.take k)/\eH x ks=true:=by
 have:=h.done hk
 have e:=WE x ks k hk
 unfold zf xe
 rw[this,e.2.1,e.2.2];exact⟨rfl,rfl,rfl⟩
def gO:aJ:=⟨yr,[.v (.st .expr), .v (.slice (.int .i64))],λ (x:J) (ps:List Int)=>⟨(none,[⟨(.st .expr),zf x ps⟩,⟨.bool,xe x ps⟩,⟨.bool,eH x ps⟩])⟩⟩
def Gs(x:J)(ps:List Int):Nat->aH:=(λ zb=>if Nat.beq zb 0 then .mk (Nat) (λ k=>Bt x ps k) (λ k=>ps.length - k) [] [0,1,3,7] (λ k=>[(11, .aW ⟨(.int .i64),((k:Int):Int)⟩),(5, .aW ⟨.bool,(qm x (ps.take k):Bool)⟩)]) [4,5,6,8,9,10,11,12,13,14,15,16,17,18,19,20,21,22,23,24,25,26,27,28,29,30,31,32,33,34,35,36] (λ k=>[(2, .box [.aW ⟨(.int .i64),((dd x (ps.take k)).ak:Int)⟩, .aW ⟨(.int .i64),((dd x (ps.take k)).aI:Int)⟩, .aW ⟨(.slice (.st .expr)),((dd x (ps.take k)).M:List J)⟩])]) [] [] (λ k=>λ _ => .none) else .none)
abbrev Cl(x:J)(ps:List Int)(k1:Nat)(k2:Nat):Prop:=(((((dd x (ps.take k1)).M).getD (Int.toNat (ps.getD k1 (0:Int))) zE).ak=((dd x (ps.take k2)).ak)/\((((dd x (ps.take k1)).M).getD (Int.toNat (ps.getD k1 (0:Int))) zE).aI=((dd x (ps.take k2)).aI)/\((((dd x (ps.take k1)).M).getD (Int.toNat (ps.getD k1 (0:Int))) zE).M=((dd x (ps.take k2)).M)/\True)))/\(((0:Int)=(0:Int)/\((0:Int)=(0:Int)/\(True/\True)))/\True))
theorem Q5(x:J)(ps:List Int):ck (aL [cp]) (au lL) (Gs x ps) 0 (bg (aL [cp]) lL λ r=>bp r [⟨(.st .expr),zf x ps⟩,⟨.bool,xe x ps⟩,⟨.bool,eH x ps⟩]) (aD lL [.val ⟨(.st .expr),x⟩, .val ⟨(.slice (.int .i64)),ps⟩]) =
 ((O ((ps.length:Int)) ->
 ((∃ k1:Nat,(Bt x ps k1/\((True/\(True/\(false=(qm x (ps.take k1))/\(ps=ps/\(((ps.length:Int))=((ps.length:Int))/\((0:Int)=(k1:Int)/\True))))))/\((x.ak=((dd x (ps.take k1)).ak)/\(x.aI=((dd x (ps.take k1)).aI)/\(x.M=((dd x (ps.take k1)).M)/\True)))/\(((0:Int)=(0:Int)/\((0:Int)=(0:Int)/\(True/\True)))/\True)))))/\(∀ k1:Nat,(Bt x ps k1 ->
 (((decide ((k1:Int)<((ps.length:Int))))=true ->
 (aw (k1:Int) ps.length/\(O (ps.getD k1 (0:Int)) ->
 (((dd x (ps.take k1)).M).length<=140737488355328 ->
 (O ((((dd x (ps.take k1)).M).length:Int)) ->
 (O (((((dd x (ps.take k1)).M).length:Int)) - (1:Int))/\((((!(decide ((0:Int)<=(ps.getD k1 (0:Int))/\(ps.getD k1 (0:Int))<=(((((dd x (ps.take k1)).M).length:Int)) - (1:Int)))))=true) ->
 (zE=(zf x ps)/\(false=(xe x ps)/\false=(eH x ps))))/\(((!(decide ((0:Int)<=(ps.getD k1 (0:Int))/\(ps.getD k1 (0:Int))<=(((((dd x (ps.take k1)).M).length:Int)) - (1:Int)))))=false) ->
 (((qm x (ps.take k1))=false ->
 (O ((dd x (ps.take k1)).ak) ->
 (((dd x (ps.take k1)).M).length<=140737488355328 ->
 (aw (ps.getD k1 (0:Int)) ((dd x (ps.take k1)).M).length/\(O ((k1:Int)+(1:Int))/\(∃ k2:Nat,(Bt x ps k2/\(ps.length - k2<ps.length - k1/\((True/\(True/\((decide (((dd x (ps.take k1)).ak)=(5:Int)))=(qm x (ps.take k2))/\(ps=ps/\(((ps.length:Int))=((ps.length:Int))/\(((k1:Int)+(1:Int))=(k2:Int)/\True))))))/\(Cl x ps k1 k2))))))))))/\((qm x (ps.take k1))=(!false) ->
 (((dd x (ps.take k1)).M).length<=140737488355328 ->
 (aw (ps.getD k1 (0:Int)) ((dd x (ps.take k1)).M).length/\(O ((k1:Int)+(1:Int))/\(∃ k2:Nat,(Bt x ps k2/\(ps.length - k2<ps.length - k1/\((True/\(True/\(true=(qm x (ps.take k2))/\(ps=ps/\(((ps.length:Int))=((ps.length:Int))/\(((k1:Int)+(1:Int))=(k2:Int)/\True))))))/\(Cl x ps k1 k2))))))))))))))))))/\((decide ((k1:Int)<((ps.length:Int))))=false ->
 ((J.mk ((dd x (ps.take k1)).ak) ((dd x (ps.take k1)).aI) ((dd x (ps.take k1)).M))=(zf x ps)/\((qm x (ps.take k1))=(xe x ps)/\true=(eH x ps)))))))))):=by kernel_rfl
theorem QR(hE:aG [cp]):aJ.Good gO:=by
 refine⟨aA D4 rfl (by decide),?_⟩
 show ∀ (x:J) (ps:List Int),True->bh prog yr [.val ⟨(.st .expr),x⟩, .val ⟨(.slice (.int .i64)),ps⟩] (·=[⟨(.st .expr),zf x ps⟩,⟨.bool,xe x ps⟩,⟨.bool,eH x ps⟩])
 intro x ps _
 refine aM (wr:=[]) (cl:=[]) (ro:=[]) hE D4 LG (Gs x ps) ?_
 rewrite [Q5 x ps]
 have f0:dd x (ps.take 0)=x:=by rw[a9D];rfl
 have f1:qm x (ps.take 0)=false:=by rw[a9D];rfl
 refine λ _=>⟨⟨0,?_,⟨trivial,trivial,?_,rfl,rfl,?_,trivial⟩,⟨?_,?_,?_,trivial⟩,⟨rfl,rfl,trivial,trivial⟩,trivial⟩,λ k1 _=>⟨λ _=>⟨?_,λ _ _ _=>⟨?_,λ _=>⟨?_,?_,?_⟩,λ _=>⟨λ _ _ _=>⟨?_,?_,k1+1,?_,?_,⟨trivial,trivial,?_,rfl,rfl,?_,trivial⟩,⟨?_,?_,?_,trivial⟩,⟨rfl,rfl,trivial,trivial⟩,trivial⟩,λ _ _=>⟨?_,?_,k1+1,?_,?_,⟨trivial,trivial,?_,rfl,rfl,?_,trivial⟩,⟨?_,?_,?_,trivial⟩,⟨rfl,rfl,trivial,trivial⟩,trivial⟩⟩⟩⟩,λ _=>⟨?_,?_,?_⟩⟩⟩
 all_goals try and_intros
 all_goals first|with_reducible rfl|with_reducible assumption|exact True.intro|((try simp only[a8T,J.eta,a8p,a8q,a8x,a8v,a8J,a8X,aw,O,br,a8K,a8C,a8N,a8R,a8U] at *);first|exact True.intro|omega|exact Bt.zero _ _|(rw[f0];done)|(rw[f1];done)|(have h:Bt x ps k1:=(by with_reducible assumption);first|exact (h.no (by omega) (by with_reducible assumption)).1|exact ((h.no (by omega) (by with_reducible assumption)).1).symm|exact (h.no (by omega) (by with_reducible assumption)).2.1|exact ((h.no (by omega) (by with_reducible assumption)).2.1).symm|exact (h.no (by omega) (by with_reducible assumption)).2.2|exact ((h.no (by omega) (by with_reducible assumption)).2.2).symm|exact h.next (by omega) (by with_reducible assumption)|exact (h.yes (by omega)).1|exact ((h.yes (by omega)).1).symm|exact (h.yes (by omega)).2.1|exact ((h.yes (by omega)).2.1).symm|exact (h.yes (by omega)).2.2|exact ((h.yes (by omega)).2.2).symm|(rw[(yC x ps k1 (by omega)).2.1];done)|(rw[(yC x ps k1 (by omega)).2.2];simp only[XT, *,Bool.true_or,b2p];done)|(rw[(yC x ps k1 (by omega)).2.2];simp only[XT, *,Bool.true_or,b2p];simp[*];done)))
theorem zP:aJ.Good gO:=QR ⟨ie,trivial⟩
theorem uE{t a:Int}{x:J}(h:aZ t a x=true)(i:Nat)(hi:i<x.M.length):aZ t a (x.M.getD i zE)=true:=by
 rw[kB,a8r] at h
 have hm:x.M.getD i zE∈x.M:=by
  rw[a8H,a8P hi]
  exact a9M _
 have:∀ xs:List J,bq (aZ t a) xs=true->∀ y∈xs,aZ t a y=true:=by
  intro xs
  induction xs with
  | nil=>intro _ y hy;cases hy
  | cons z zs ih =>
   intro h y hy
   simp only[bq,a8r] at h
   rcases a8I.1 hy with rfl|hy
   .exact h.1
   .exact ih h.2 y hy
 exact this _ h.2 _ hm
theorem T3{t a:Int}{x:J}(h:aZ t a x=true):x.M.length<=2:=by
 rw[kB,a8r] at h
 have h1:=h.1
 unfold rr at h1
 simp only[a8r,a8p] at h1
 have h2:=h1.1.1
 unfold cN at h2
 split at h2
 .omega
 .split at h2
  .omega
  .split at h2<;>omega
theorem oo{x:J}(h:aZ 62 62 x=true)(hk:x.ak=3\/x.ak=4):0<=x.aI/\x.aI<=62:=by
 rw[kB,a8r] at h
 have h1:=h.1
 unfold rr at h1
 rcases hk with hk|hk<;>simp[hk] at h1<;>omega
theorem Qq:∀ (xs:List J) (y:J),bL (xs++[y])=(max (bL xs).1 (cC y).1,max (bL xs).2 (cC y).2)
 | [],y=>by
  rw[a8T]
  simp only[bL]
  rw[Int.max_comm,Int.max_comm (cC y).2]
 | x::xs,y=>by
  rw[a9y,bL,Qq xs y,bL]
  simp only[Int.max_assoc]
theorem Qr(x:J)(i:Nat)(hi:i<x.M.length):bL (x.M.take (i+1))=(max (bL (x.M.take i)).1 (cC (x.M.getD i zE)).1,max (bL (x.M.take i)).2 (cC (x.M.getD i zE)).2):=by
 rw[fJ zE x.M i hi,Qq]
theorem a3p(x:J)(h:x.ak=3):cC x=(x.aI+1,0):=by rw[CQ,a8O h]
theorem a3q(x:J)(h3:¬ x.ak=3)(h:x.ak=4):cC x=(0,x.aI+1):=by rw[CQ,a8y h3,a8O h]
theorem ZM(x:J)(h3:¬ x.ak=3)(h:¬ x.ak=4)(i:Nat)(hi:x.M.length<=i):cC x=bL (x.M.take i):=by rw[CQ,a8y h3,a8y h,a9d hi]
theorem a6A{ts as_:List J}{x:J}(h:x.ak=3):c9 ts as_ x=ts.getD x.aI.toNat zE:=by rw[V5,a8O h]
theorem a6B{ts as_:List J}{x:J}(h3:¬ x.ak=3)(h:x.ak=4):c9 ts as_ x=as_.getD x.aI.toNat zE:=by rw[V5,a8y h3,a8O h]
theorem a6C{ts as_:List J}{x:J}(h3:¬ x.ak=3)(h:¬ x.ak=4)(i:Nat)(hi:x.M.length<=i):c9 ts as_ x=J.mk x.ak x.aI ((x.M.take i).map (c9 ts as_)):=by rw[V5,a8y h3,a8y h,a9d hi]
theorem Xt(ts as_:List J)(x:J)(i:Nat)(hi:i<x.M.length):(x.M.take (i+1)).map (c9 ts as_)=(x.M.take i).map (c9 ts as_)++[c9 ts as_ (x.M.getD i zE)]:=by
 rw[fJ zE x.M i hi];simp
theorem U1{ts as_:List J}{x:J}(h:iv ts as_ x)(h3:¬ x.ak=3)(h4:¬ x.ak=4)(i:Nat)(hi:i<x.M.length):iv ts as_ (x.M.getD i zE) :=
 U2 (YU h h3 h4) _ (by
  rw[a8H,a8P hi]
  exact a9M _)
structure Lk(ts as_:List J):Prop where
 t:∀ y∈ts,ar y<=1048576
 a:∀ y∈as_,ar y<=1048576
theorem Lk.gt{ts as_:List J}(h:Lk ts as_){n:Int}(h0:0<=n)(h1:n<(ts.length:Int)):ar (ts.getD n.toNat zE)<=1048576:=h.t _ (by
 rw[a8H,a8P (by omega)]
 exact a9M _)
theorem Lk.ga{ts as_:List J}(h:Lk ts as_){n:Int}(h0:0<=n)(h1:n<(as_.length:Int)):ar (as_.getD n.toNat zE)<=1048576:=h.a _ (by
 rw[a8H,a8P (by omega)]
 exact a9M _)
def kL:aJ:=⟨td,[.v (.int .i64), .v (.slice (.st .expr))],λ (k:Int) (ks:List J)=>⟨(none,[⟨(.st .expr),J.mk k 0 ks⟩])⟩⟩
def MF(k:Int)(ks:List J):Nat->aH:=λ _ => .none
theorem UB(k:Int)(ks:List J):ck (aL []) (au iJ) (MF k ks) 0 (bg (aL []) iJ λ r=>bp r [⟨(.st .expr),J.mk k 0 ks⟩]) (aD iJ [.val ⟨(.int .i64),k⟩, .val ⟨(.slice (.st .expr)),ks⟩]) =
 ((J.mk k (0:Int) ks)=(J.mk k 0 ks)):=by kernel_rfl
theorem Uu(hE:aG []):aJ.Good kL:=by
 refine⟨aA uG rfl (by decide),?_⟩
 show ∀ (k:Int) (ks:List J),True->bh prog td [.val ⟨(.int .i64),k⟩, .val ⟨(.slice (.st .expr)),ks⟩] (·=[⟨(.st .expr),J.mk k 0 ks⟩])
 intro k ks _
 refine aM (wr:=[]) (cl:=[]) (ro:=[]) hE uG Eb (MF k ks) ?_
 rewrite [UB k ks]
 refine ?_
 all_goals try and_intros
 all_goals first|rfl|trivial|omega|(simp only[a8p,a8q,aw,O,cr,cW,cH,br] at *;omega)|(simp[aw,O] at *;omega)|grind
theorem Ed:aJ.Good kL:=Uu trivial
mutual
theorem Ns:∀ x:J,aZ 62 62 x=true->(0<=(cC x).1/\(cC x).1<=63)/\0<=(cC x).2/\(cC x).2<=63
 | ⟨k,n,ks⟩=>λ h=>by
  have h1:=oo h
  rw[aZ,a8r] at h
  have h2:=Ld ks h.2
  rw[cC]
  dsimp only at h1
  by_cases h3:k=3
  .have:=h1 (.inl h3)
   rw[if_pos h3];dsimp only;omega
  .by_cases h4:k=4
   .have:=h1 (.inr h4)
    rw[if_neg h3,if_pos h4];dsimp only;omega
   .rw[a8y h3,a8y h4];exact h2
theorem Ld:∀ xs:List J,pU 62 62 xs=true->(0<=(bL xs).1/\(bL xs).1<=63)/\0<=(bL xs).2/\(bL xs).2<=63
 | []=>λ _=>by rw[bL];dsimp only;omega
 | x::xs=>λ h=>by
  rw[pU,a8r] at h
  have h1:=Ns x h.1
  have h2:=Ld xs h.2
  rw[bL];dsimp only;omega
end
theorem Nu{t a:Int}:∀ (xs:List J) (i:Nat),pU t a xs=true->pU t a (xs.take i)=true
 | _,0,_=>by rw[a9D];rfl
 | [],i+1,_=>by rw[b1K];rfl
 | x::xs,i+1,h=>by
  rw[pU,a8r] at h
  rw[b0A,pU,h.1,Nu xs i h.2];rfl
theorem O9(x:J)(h:aZ 62 62 x=true)(i:Nat):(0<=(bL (x.M.take i)).1/\(bL (x.M.take i)).1<=63)/\0<=(bL (x.M.take i)).2/\(bL (x.M.take i)).2<=63:=by
 cases x with
 | mk k n ks =>
  rw[aZ,a8r] at h
  exact Ld _ (Nu ks i h.2)
def qx(n:Nat):aJ:=⟨xd,[.v (.st .expr)],λ (x:J)=>⟨(some (cz x<n/\aZ 62 62 x=true),[⟨(.int .i64),(cC x).1⟩,⟨(.int .i64),(cC x).2⟩])⟩⟩
def xa:aJ:=⟨xd,[.v (.st .expr)],λ (x:J)=>⟨(some (aZ 62 62 x=true),[⟨(.int .i64),(cC x).1⟩,⟨(.int .i64),(cC x).2⟩])⟩⟩
def ME(x:J):Nat->aH:=(λ zb=>if Nat.beq zb 1 then .mk (Nat) (λ i=>i<=x.M.length) (λ i=>x.M.length - i) [] [0,1,6,10,11,12,13,14,15,16,17,18,19,20,21,22] (λ i=>[(25, .aW ⟨(.int .i64),((i:Int):Int)⟩),(4, .aW ⟨(.int .i64),((bL (x.M.take i)).1:Int)⟩),(5, .aW ⟨(.int .i64),((bL (x.M.take i)).2:Int)⟩)]) [2,3,4,5,7,8,9,23,24,25,26,27,28,29,30,31,32,33,34,35,36,37,38,39,40,41,42] (λ i=>[]) [] [] (λ i=>λ _ => .none) else .none)
theorem UA(n:Nat)(x:J):ck (aL [qx n] [] [] [1]) (au pI) (ME x) 0 (bg (aL [qx n] [] [] [1]) pI λ r=>bp r [⟨(.int .i64),(cC x).1⟩,⟨(.int .i64),(cC x).2⟩]) (aD pI [.val ⟨(.st .expr),x⟩]) =
 ((O x.ak ->
 (((decide (x.ak=(3:Int)))=true ->
 (O x.aI ->
 (O (x.aI+(1:Int))/\((x.aI+(1:Int))=((cC x).1)/\(0:Int)=((cC x).2)))))/\((decide (x.ak=(3:Int)))=false ->
 (((decide (x.ak=(4:Int)))=true ->
 (O (x.aI+(1:Int))/\(O x.aI ->
 ((0:Int)=((cC x).1)/\(x.aI+(1:Int))=((cC x).2)))))/\((decide (x.ak=(4:Int)))=false ->
 (x.M.length<=140737488355328 ->
 (O ((x.M.length:Int)) ->
 ((∃ i1:Nat,(i1<=x.M.length/\(((0:Int)=(0:Int)/\((0:Int)=(0:Int)/\((0:Int)=((bL (x.M.take i1)).1)/\((0:Int)=((bL (x.M.take i1)).2)/\(x.M=x.M/\(((x.M.length:Int))=((x.M.length:Int))/\((0:Int)=(i1:Int)/\True)))))))/\True)))/\(∀ i1:Nat,(i1<=x.M.length ->
 (((decide ((i1:Int)<((x.M.length:Int))))=true ->
 (aw (i1:Int) x.M.length/\((cz (ag (x.M.getD i1 zE))<n/\aZ 62 62 (ag (x.M.getD i1 zE))=true)/\(O ((cC (ag (x.M.getD i1 zE))).1) ->
 (O ((cC (ag (x.M.getD i1 zE))).2) ->
 (O (max ((bL (x.M.take i1)).1) ((cC (ag (x.M.getD i1 zE))).1)) ->
 (O (max ((bL (x.M.take i1)).2) ((cC (ag (x.M.getD i1 zE))).2)) ->
 (O ((i1:Int)+(1:Int))/\(∃ i2:Nat,(i2<=x.M.length/\(x.M.length - i2<x.M.length - i1/\(((0:Int)=(0:Int)/\((0:Int)=(0:Int)/\((max ((bL (x.M.take i1)).1) ((cC (ag (x.M.getD i1 zE))).1))=((bL (x.M.take i2)).1)/\((max ((bL (x.M.take i1)).2) ((cC (ag (x.M.getD i1 zE))).2))=((bL (x.M.take i2)).2)/\(x.M=x.M/\(((x.M.length:Int))=((x.M.length:Int))/\(((i1:Int)+(1:Int))=(i2:Int)/\True)))))))/\True))))))))))))/\((decide ((i1:Int)<((x.M.length:Int))))=false ->
 (((bL (x.M.take i1)).1)=((cC x).1)/\((bL (x.M.take i1)).2)=((cC x).2))))))))))))))):=by kernel_rfl
theorem Ut(n:Nat)(hE:aG [qx n]):aJ.Good (qx (n+1)):=by
 refine⟨aA uF rfl (by decide),?_⟩
 show ∀ (x:J),(cz x<n+1/\aZ 62 62 x=true)->bh prog xd [.val ⟨(.st .expr),x⟩] (·=[⟨(.int .i64),(cC x).1⟩,⟨(.int .i64),(cC x).2⟩])
 intro x hp
 refine aM (wr:=[]) (cl:=[]) (ro:=[1]) hE uF Qy (ME x) ?_
 rewrite [UA n x]
 have f0:=λ i (h:i<x.M.length)=>cq zE x.M i h
 have f1:=dV x
 have f2:bL (x.M.take 0)=(0,0):=by rw[a9D];rfl
 refine λ _=>⟨λ _ _=>⟨?_,?_,?_⟩,λ _=>⟨λ _=>⟨?_,λ _=>⟨?_,?_⟩⟩,λ _ _ _=>⟨⟨0,?_,⟨rfl,rfl,?_,?_,rfl,rfl,?_,trivial⟩,trivial⟩,λ i1 _=>⟨λ _=>⟨?_,?_,λ _ _ _ _=>⟨?_,i1+1,?_,?_,⟨rfl,rfl,?_,?_,rfl,rfl,?_,trivial⟩,trivial⟩⟩,λ _=>⟨?_,?_⟩⟩⟩⟩⟩
 all_goals try and_intros
 all_goals try (first|with_reducible rfl|with_reducible assumption)
 all_goals try simp only[J.eta,ae.eta,aj.eta,aP,bM,cn] at *
 all_goals first|with_reducible rfl|with_reducible assumption|exact True.intro|(simp only[a8B,a8w,a8x,a8v] at *;done)|((try simp only[a8T,J.eta,a8p,a8q,a8x,a8v,a8J,a8X,aw,O,br,a8K,a8C,a8N,a8R,a8U] at *);first|exact True.intro|omega|(rw[f2];done)|(rw[a3p x (by with_reducible assumption)];done)|(rw[a3q x (by with_reducible assumption) (by with_reducible assumption)];done)|(have h1:=oo hp.2 (.inl (by with_reducible assumption));omega)|(have h1:=oo hp.2 (.inr (by with_reducible assumption));omega)|(rw[ZM x (by with_reducible assumption) (by with_reducible assumption) i1 (by omega)];done)|exact uE hp.2 _ (by omega)|(have h1:=f0 i1 (by omega);omega)|(rw[Qr x i1 (by omega)];done)|(have h1:=Ns _ (uE hp.2 i1 (by omega));have h2:=O9 x hp.2 i1;omega))
theorem RD :∀ n,aG [qx n]
 | 0=>⟨⟨aA uF rfl (by decide),λ _ h=>absurd h.1 (a9p _)⟩,trivial⟩
 | n+1=>by
  have ih:=RD  n
  exact⟨Ut n ⟨ih.1,trivial⟩,trivial⟩
theorem QB :aJ.Good xa :=
 ⟨aA uF rfl (by decide),λ x hp=>(RD  (cz x+1)).1.2 x (⟨a9h _,hp⟩)⟩
def mC(n:Nat):aJ:=⟨s7,[.v (.st .expr), .v (.slice (.st .expr)), .v (.slice (.st .expr))],λ (x:J) (ts:List J) (as_:List J)=>⟨(some (cz x<n/\iv ts as_ x/\aZ 62 62 x=true/\Lk ts as_),[⟨(.st .expr),c9 ts as_ x⟩])⟩⟩
def qX:aJ:=⟨s7,[.v (.st .expr), .v (.slice (.st .expr)), .v (.slice (.st .expr))],λ (x:J) (ts:List J) (as_:List J)=>⟨(some (iv ts as_ x/\aZ 62 62 x=true/\Lk ts as_),[⟨(.st .expr),c9 ts as_ x⟩])⟩⟩
def EJ(x:J)(ts:List J)(as_:List J):Nat->aH:=(λ zb=>if Nat.beq zb 1 then .mk (Nat) (λ i=>i<=x.M.length) (λ i=>x.M.length - i) [] [0,3,4,5,8,10,11,12,13,14,15,16,17,18,19,20,21,22,23,24,25,26,27,28,29,30,31,32,33,34,35,36,37,38,39,40,41,42,43] (λ i=>[(46, .aW ⟨(.int .i64),((i:Int):Int)⟩)]) [1,2,6,9,44,45,46,47,48,49,50,51,52,53,54,55,56,57,58,59,60] (λ i=>[(7, .box [.aW ⟨(.int .i64),(x.ak:Int)⟩, .aW ⟨(.int .i64),(x.aI:Int)⟩, .aE 5800]),(5800, .aE (.st .expr) ((x.M.take i).map (c9 ts as_):List J))]) [] [] (λ i=>λ _ => .none) else .none)
abbrev Ah(x:J)(ts:List J)(as_:List J):Prop:=(O x.aI ->
 (aw x.aI ts.length/\(ar (ts.getD (Int.toNat x.aI) zE)<=1048576/\(ag (ts.getD (Int.toNat x.aI) zE))=(c9 ts as_ x))))
abbrev Ai(x:J)(ts:List J)(as_:List J):Prop:=(O x.aI ->
 (aw x.aI as_.length/\(ar (as_.getD (Int.toNat x.aI) zE)<=1048576/\(ag (as_.getD (Int.toNat x.aI) zE))=(c9 ts as_ x))))
abbrev Aj(n:Nat)(x:J)(ts:List J)(as_:List J):Prop:=(O x.ak ->
 (O x.aI ->
 (x.M.length<=140737488355328 ->
 (O ((x.M.length:Int)) ->
 ((∃ i1:Nat,(i1<=x.M.length/\((ts=ts/\(as_=as_/\(True/\(True/\(x.M=x.M/\(((x.M.length:Int))=((x.M.length:Int))/\((0:Int)=(i1:Int)/\True)))))))/\((x.ak=x.ak/\(x.aI=x.aI/\(True/\True)))/\(((x.M.take i1).map (c9 ts as_))=[]/\(((0:Int)=(0:Int)/\((0:Int)=(0:Int)/\(True/\True)))/\True))))))/\(∀ i1:Nat,(i1<=x.M.length ->
 (((decide ((i1:Int)<((x.M.length:Int))))=true ->
 (aw (i1:Int) x.M.length/\(ts.length<=140737488355328 ->
 (as_.length<=140737488355328 ->
 (((7:Nat)=7/\(2:Nat)=2)/\((5800:Nat)=5800/\(((x.M.getD i1 zE).ak=(x.M.getD i1 zE).ak/\((x.M.getD i1 zE).aI=(x.M.getD i1 zE).aI/\((x.M.getD i1 zE).M=(x.M.getD i1 zE).M/\True)))/\(ts=ts/\(as_=as_/\((cz (ag (x.M.getD i1 zE))<n/\iv ts as_ (ag (x.M.getD i1 zE))/\aZ 62 62 (ag (x.M.getD i1 zE))=true/\Lk ts as_)/\(((7:Nat)=7/\(2:Nat)=2)/\((5800:Nat)=5800/\(((7:Nat)=7/\(2:Nat)=2)/\((5800:Nat)=5800/\(br (((x.M.take i1).map (c9 ts as_)).length+([(ag (c9 ts as_ (ag (x.M.getD i1 zE))))]).length) 40/\(O ((i1:Int)+(1:Int))/\(∃ i2:Nat,(i2<=x.M.length/\(x.M.length - i2<x.M.length - i1/\((ts=ts/\(as_=as_/\(True/\(True/\(x.M=x.M/\(((x.M.length:Int))=((x.M.length:Int))/\(((i1:Int)+(1:Int))=(i2:Int)/\True)))))))/\((x.ak=x.ak/\(x.aI=x.aI/\(True/\True)))/\((((x.M.take i1).map (c9 ts as_))++([(ag (c9 ts as_ (ag (x.M.getD i1 zE))))]))=((x.M.take i2).map (c9 ts as_))/\(((0:Int)=(0:Int)/\((0:Int)=(0:Int)/\(True/\True)))/\True)))))))))))))))))))))))/\((decide ((i1:Int)<((x.M.length:Int))))=false ->
 (J.mk x.ak x.aI ((x.M.take i1).map (c9 ts as_)))=(c9 ts as_ x))))))))))
abbrev Ak(n:Nat)(x:J)(ts:List J)(as_:List J):Prop:=(O x.ak ->
 (((decide (x.ak=(4:Int)))=true ->
 (1<=as_.length/\((true=true ->
 (Ai x ts as_))/\(true=false ->
 (Aj n x ts as_)))))/\((decide (x.ak=(4:Int)))=(!true) ->
 ((false=true ->
 (Ai x ts as_))/\(false=false ->
 (Aj n x ts as_))))))
theorem PC(n:Nat)(x:J)(ts:List J)(as_:List J):ck (cY [] [mC n,fH] [] [23,37,55,56,57] [] [] [3]) (au lG) (EJ x ts as_) 0 (fI (cY [] [mC n,fH] [] [23,37,55,56,57] [] [] [3]) lG λ r=>bp r [⟨(.st .expr),c9 ts as_ x⟩]) (jN lG [.val ⟨(.st .expr),x⟩, .val ⟨(.slice (.st .expr)),ts⟩, .val ⟨(.slice (.st .expr)),as_⟩]) =
 ((O x.ak ->
 (((decide (x.ak=(3:Int)))=true ->
 (1<=ts.length/\((true=true ->
 (Ah x ts as_))/\(true=false ->
 (Ak n x ts as_)))))/\((decide (x.ak=(3:Int)))=(!true) ->
 ((false=true ->
 (Ah x ts as_))/\(false=false ->
 (Ak n x ts as_))))))):=by kernel_rfl
theorem O2(n:Nat)(hE:aG [])(hO:fW [mC n,fH])(hM:gZ [])(hS:fX []):aJ.eA (mC (n+1)):=by
 refine⟨aA qI rfl (by decide),?_⟩
 show ∀ (x:J) (ts:List J) (as_:List J),(cz x<n+1/\iv ts as_ x/\aZ 62 62 x=true/\Lk ts as_)->iI prog s7 [.val ⟨(.st .expr),x⟩, .val ⟨(.slice (.st .expr)),ts⟩, .val ⟨(.slice (.st .expr)),as_⟩] [⟨(.st .expr),c9 ts as_ x⟩]
 intro x ts as_ hp
 refine ec (own:=[23,37,55,56,57]) (wr:=[]) (cl:=[]) (ro:=[3]) hE hO hM hS qI LA (EJ x ts as_) ?_
 rewrite [PC n x ts as_]
 obtain⟨hm,g0,g1,g2⟩:=hp
 have f0:=λ i (h:i<x.M.length)=>cq zE x.M i h
 have f1:=dV x
 have f2:(x.M.take 0).map (c9 ts as_)=[]:=by simp
 have f3:=T3 g1
 refine λ _=>⟨λ _=>⟨?_,λ _ _=>⟨?_,?_,?_⟩,λ _ _=>⟨λ _=>⟨?_,λ _ _=>⟨?_,?_,?_⟩,λ _ _ _ _ _=>⟨⟨0,?_,⟨rfl,rfl,trivial,trivial,rfl,rfl,?_,trivial⟩,⟨rfl,rfl,trivial,trivial⟩,?_,⟨rfl,rfl,trivial,trivial⟩,trivial⟩,λ i1 _=>⟨λ _=>⟨?_,λ _ _=>⟨⟨?_,?_⟩,?_,⟨rfl,rfl,rfl,?_⟩,rfl,rfl,?_,⟨?_,?_⟩,?_,⟨?_,?_⟩,?_,?_,?_,i1+1,?_,?_,⟨rfl,rfl,trivial,trivial,rfl,rfl,?_,trivial⟩,⟨rfl,rfl,trivial,trivial⟩,?_,⟨rfl,rfl,trivial,trivial⟩,trivial⟩⟩,λ _=>?_⟩⟩⟩,λ _=>⟨λ _ _=>⟨?_,?_,?_⟩,λ _ _ _ _ _=>⟨⟨0,?_,⟨rfl,rfl,trivial,trivial,rfl,rfl,?_,trivial⟩,⟨rfl,rfl,trivial,trivial⟩,?_,⟨rfl,rfl,trivial,trivial⟩,trivial⟩,λ i1 _=>⟨λ _=>⟨?_,λ _ _=>⟨⟨?_,?_⟩,?_,⟨rfl,rfl,rfl,?_⟩,rfl,rfl,?_,⟨?_,?_⟩,?_,⟨?_,?_⟩,?_,?_,?_,i1+1,?_,?_,⟨rfl,rfl,trivial,trivial,rfl,rfl,?_,trivial⟩,⟨rfl,rfl,trivial,trivial⟩,?_,⟨rfl,rfl,trivial,trivial⟩,trivial⟩⟩,λ _=>?_⟩⟩⟩⟩⟩,λ _=>⟨λ _ _=>⟨?_,?_,?_⟩,λ _ _=>⟨λ _=>⟨?_,λ _ _=>⟨?_,?_,?_⟩,λ _ _ _ _ _=>⟨⟨0,?_,⟨rfl,rfl,trivial,trivial,rfl,rfl,?_,trivial⟩,⟨rfl,rfl,trivial,trivial⟩,?_,⟨rfl,rfl,trivial,trivial⟩,trivial⟩,λ i1 _=>⟨λ _=>⟨?_,λ _ _=>⟨⟨?_,?_⟩,?_,⟨rfl,rfl,rfl,?_⟩,rfl,rfl,?_,⟨?_,?_⟩,?_,⟨?_,?_⟩,?_,?_,?_,i1+1,?_,?_,⟨rfl,rfl,trivial,trivial,rfl,rfl,?_,trivial⟩,⟨rfl,rfl,trivial,trivial⟩,?_,⟨rfl,rfl,trivial,trivial⟩,trivial⟩⟩,λ _=>?_⟩⟩⟩,λ _=>⟨λ _ _=>⟨?_,?_,?_⟩,λ _ _ _ _ _=>⟨⟨0,?_,⟨rfl,rfl,trivial,trivial,rfl,rfl,?_,trivial⟩,⟨rfl,rfl,trivial,trivial⟩,?_,⟨rfl,rfl,trivial,trivial⟩,trivial⟩,λ i1 _=>⟨λ _=>⟨?_,λ _ _=>⟨⟨?_,?_⟩,?_,⟨rfl,rfl,rfl,?_⟩,rfl,rfl,?_,⟨?_,?_⟩,?_,⟨?_,?_⟩,?_,?_,?_,i1+1,?_,?_,⟨rfl,rfl,trivial,trivial,rfl,rfl,?_,trivial⟩,⟨rfl,rfl,trivial,trivial⟩,?_,⟨rfl,rfl,trivial,trivial⟩,trivial⟩⟩,λ _=>?_⟩⟩⟩⟩⟩⟩
 all_goals try and_intros
 all_goals try (first|with_reducible rfl|with_reducible assumption)
 all_goals try simp only[J.eta,ae.eta,aj.eta,aP,bM,cn] at *
 all_goals first|with_reducible rfl|with_reducible assumption|exact True.intro|(simp only[a8B,a8w,a8x,a8v] at *;done)|((try simp only[a8T,J.eta,a8p,a8q,a8x,a8v,a8J,a8X,aw,O,br,a8K,a8C,a8N,a8R,a8U] at *);first|exact True.intro|omega|(rw[f2];done)|(rw[a6A (by with_reducible assumption)];done)|(rw[a6B (by with_reducible assumption) (by with_reducible assumption)];done)|(have h1:=oo g1 (.inl (by with_reducible assumption));have h2:=Z5 g0 (by with_reducible assumption);first|omega|exact g2.gt h1.1 h2)|(have h1:=oo g1 (.inr (by with_reducible assumption));have h2:=Z4 g0 (by with_reducible assumption);first|omega|exact g2.ga h1.1 h2)|(rw[a6C (by with_reducible assumption) (by with_reducible assumption) i1 (by omega)];done)|exact uE g1 _ (by omega)|(have h1:=f0 i1 (by omega);omega)|exact U1 g0 (by with_reducible assumption) (by with_reducible assumption) i1 (by omega)|exact Xt _ _ _ _ (by omega)|exact (Xt _ _ _ _ (by omega)).symm)
theorem PS:∀ n,fW [mC n]
 | 0=>⟨⟨aA qI rfl (by decide),λ _ _ _ h=>absurd h.1 (a9p _)⟩,trivial⟩
 | n+1=>by
  have ih:=PS n
  exact⟨O2 n trivial ⟨ih.1,vy,trivial⟩ trivial trivial,trivial⟩
theorem KS:aJ.eA qX :=
 ⟨aA qI rfl (by decide),λ x ts as_ hp=>(PS (cz x+1)).1.2 x ts as_ (⟨a9h _,hp⟩)⟩
theorem a1w{l r:J}(h1:aZ 62 62 l=true)(h2:aZ 62 62 r=true):aZ 62 62 (J.mk 6 0 [l,r])=true:=by
 rw[kB]
 simp only[bq,h1,h2,rr,cN]
 simp
theorem a3r(l r:J):cC (J.mk 6 0 [l,r])=bL [l,r]:=by rw[cC];simp
def jR(gg:aO)(x:J)(ts as_:List J):J:=bif cg gg (c9 ts as_ x) then c9 ts as_ x else J.mk (0:Int) (0:Int) []
def nC(gg:aO)(x:J)(ts as_:List J):Int:=bif cg gg (c9 ts as_ x) then 0 else 3
theorem A2{gg:aO}{x:J}{ts as_:List J}(h:cg gg (c9 ts as_ x)=true):jR gg x ts as_=c9 ts as_ x/\nC gg x ts as_=0:=by unfold jR nC;rw[h];exact⟨rfl,rfl⟩
theorem Dv{gg:aO}{x:J}{ts as_:List J}(h:cg gg (c9 ts as_ x)=false):jR gg x ts as_=J.mk (0:Int) (0:Int) []/\nC gg x ts as_=3:=by unfold jR nC;rw[h];exact⟨rfl,rfl⟩
def IK(y x:J)(ps:List Int):List J:=(gv y x ps).M
theorem a7v(y x:J)(ps:List Int)(h:ps.length=0):gv y x ps=y:=by rw[a9E h];rfl
theorem a3f(y x:J)(ps:List Int)(h:¬ ps.length=0):IK y x ps=x.M.set (ps.getD 0 0).toNat (gv y (x.M.getD (ps.getD 0 0).toNat zE) (ps.drop 1))/\gv y x ps=J.mk x.ak x.aI (IK y x ps):=by
 match ps,h with
 | k::ks,_=>exact⟨rfl,rfl⟩
theorem Yi(y x:J)(ps:List Int)(h:¬ ps.length=0):(IK y x ps).length=x.M.length:=by rw[(a3f y x ps h).1,b0b]
theorem a0y(y x:J)(ps:List Int)(h:¬ ps.length=0)(i:Nat)(hi:i<x.M.length)(h0:0<=ps.getD 0 0):(IK y x ps).take (i+1)=(IK y x ps).take i++[if (i:Int)=ps.getD 0 0 then gv y (x.M.getD i zE) (ps.drop 1) else x.M.getD i zE]:=by
 rw[fJ zE _ i (by rw[Yi y x ps h];exact hi)]
 congr 2
 rw[(a3f y x ps h).1,a8H,b1N]
 by_cases e:(i:Int)=ps.getD 0 0
 .rw[a8O e]
  have e2:(ps.getD 0 0).toNat=i:=by omega
  rw[a8O e2,e2,a8O hi];rfl
 .rw[a8y e,a8y (by omega),a8H]
theorem Yh(y x:J)(ps:List Int)(h:¬ ps.length=0)(i:Nat)(hi:x.M.length<=i):gv y x ps=J.mk x.ak x.aI ((IK y x ps).take i):=by
 rw[a9d (by rw[Yi y x ps h];exact hi)]
 exact (a3f y x ps h).2
theorem Zy{x:J}{ps:List Int}(h:¬ ps.length=0)(ho:eH x ps=true):(0<=ps.getD 0 0/\ps.getD 0 0<=(x.M.length:Int) - 1)/\eH (x.M.getD (ps.getD 0 0).toNat zE) (ps.drop 1)=true:=by
 match ps,h with
 | k::ks,_ =>
  simp only[eH,a8r,Oq,a8p] at ho
  exact ho
def wv(gg:aO)(x:J)(ps:List Int)(y:J):J:=bif eH x ps && !(qm x ps && !bj y)&&cg gg (gv y x ps) then gv y x ps else J.mk (0:Int) (0:Int) []
def qn(gg:aO)(x:J)(ps:List Int)(y:J):Int:=bif eH x ps then (bif qm x ps && !bj y then 4 else (bif cg gg (gv y x ps) then 0 else 3)) else 2
theorem TF{gg:aO}{x y:J}{ps:List Int}(h:eH x ps=false):wv gg x ps y=J.mk (0:Int) (0:Int) []/\qn gg x ps y=2:=by unfold wv qn;rw[h];exact⟨rfl,rfl⟩
theorem O8{gg:aO}{x y:J}{ps:List Int}(h:eH x ps=true)(h2:xe x ps=true)(h3:bj y=false):wv gg x ps y=J.mk (0:Int) (0:Int) []/\qn gg x ps y=4:=by
 unfold xe at h2;rw[h,Bool.true_and] at h2
 unfold wv qn;rw[h,h2,h3];exact⟨rfl,rfl⟩
theorem mM{gg:aO}{x y:J}{ps:List Int}(h:eH x ps=true)(h2:xe x ps=false\/bj y=true)(b:Bool)(h3:cg gg (gv y x ps)=b):wv gg x ps y=(bif b then gv y x ps else J.mk (0:Int) (0:Int) [])/\qn gg x ps y=bif b then 0 else 3:=by
 have e:(qm x ps && !bj y)=false:=by
  unfold xe at h2;rw[h,Bool.true_and] at h2
  rcases h2 with g|g<;>rw[g]<;>simp
 unfold wv qn;rw[h,e,h3];exact⟨rfl,rfl⟩
def o6:aJ:=⟨yn,[.v (.st .equation)],λ (q:aj)=>⟨(some (aZ 62 62 q.left=true/\aZ 62 62 q.right=true),[⟨(.int .i64),(bL [q.left,q.right]).1⟩,⟨(.int .i64),(bL [q.left,q.right]).2⟩])⟩⟩
def Gn(q:aj):Nat->aH:=λ _ => .none
theorem Q1(q:aj):ck (aL [xa,kL] [] [] [1]) (au lH) (Gn q) 0 (bg (aL [xa,kL] [] [] [1]) lH λ r=>bp r [⟨(.int .i64),(bL [q.left,q.right]).1⟩,⟨(.int .i64),(bL [q.left,q.right]).2⟩]) (aD lH [.val ⟨(.st .equation),q⟩]) =
 ((aZ 62 62 (J.mk (6:Int) 0 ([q.left,q.right]))=true/\(O ((cC (J.mk (6:Int) 0 ([q.left,q.right]))).1) ->
 (O ((cC (J.mk (6:Int) 0 ([q.left,q.right]))).2) ->
 (((cC (J.mk (6:Int) 0 ([q.left,q.right]))).1)=((bL [q.left,q.right]).1)/\((cC (J.mk (6:Int) 0 ([q.left,q.right]))).2)=((bL [q.left,q.right]).2)))))):=by kernel_rfl
theorem QN(hE:aG [xa,kL]):aJ.Good o6:=by
 refine⟨aA D0 rfl (by decide),?_⟩
 show ∀ (q:aj),(aZ 62 62 q.left=true/\aZ 62 62 q.right=true)->bh prog yn [.val ⟨(.st .equation),q⟩] (·=[⟨(.int .i64),(bL [q.left,q.right]).1⟩,⟨(.int .i64),(bL [q.left,q.right]).2⟩])
 intro q hp
 refine aM (wr:=[]) (cl:=[]) (ro:=[1]) hE D0 LB (Gn q) ?_
 rewrite [Q1 q]
 have f0:=a1w hp.1 hp.2
 have f1:=a3r q.left q.right
 refine⟨?_,λ _ _=>⟨?_,?_⟩⟩
 all_goals try and_intros
 all_goals first|with_reducible rfl|trivial|exact f0|omega|(rw[f1];done)|(simp only[a8T,J.eta,a8p,a8q,a8x,a8v,a8J,a8X,aw,O,br,a8K,a8C,a8N,a8R,a8U] at *;omega)
theorem Mb:aJ.Good o6:=QN ⟨QB,Ed,trivial⟩
def ig:aJ:=⟨tZ,[.v (.st .sig), .v (.st .expr), .v (.slice (.st .expr)), .v (.slice (.st .expr))],λ (gg:aO) (x:J) (ts:List J) (as_:List J)=>⟨(some (iv ts as_ x/\aZ 62 62 x=true/\Lk ts as_/\ts.length<=1000/\as_.length<=1000),[⟨(.st .expr),jR gg x ts as_⟩,⟨(.int .i64),nC gg x ts as_⟩])⟩⟩
def Ar(gg:aO)(x:J)(ts:List J)(as_:List J):Nat->aH:=λ _ => .none
abbrev qf(gg:aO)(x:J)(ts:List J)(as_:List J):Prop:=(x=x/\(as_=as_/\(br ((@List.nil J).length+as_.length) 40/\(x=x/\((iv ([]++ts) ([]++as_) x/\aZ 62 62 x=true/\Lk ([]++ts) ([]++as_))/\(((!(cg gg (ag (c9 ([]++ts) ([]++as_) x))))=true ->
 (zE=(jR gg x ts as_)/\(3:Int)=(nC gg x ts as_)))/\((!(cg gg (ag (c9 ([]++ts) ([]++as_) x))))=false ->
 ((ag (c9 ([]++ts) ([]++as_) x))=(jR gg x ts as_)/\(0:Int)=(nC gg x ts as_)))))))))
theorem Lg(gg:aO)(x:J)(ts:List J)(as_:List J):ck (cY [de] [qX] [] [18] [] [] [4,5]) (au jc) (Ar gg x ts as_) 0 (fI (cY [de] [qX] [] [18] [] [] [4,5]) jc λ r=>bp r [⟨(.st .expr),jR gg x ts as_⟩,⟨(.int .i64),nC gg x ts as_⟩]) (jN jc [.val ⟨(.st .sig),gg⟩, .val ⟨(.st .expr),x⟩, .val ⟨(.slice (.st .expr)),ts⟩, .val ⟨(.slice (.st .expr)),as_⟩]) =
 ((ts.length<=140737488355328 ->
 (as_.length<=140737488355328 ->
 (x=x/\(ts=ts/\(as_=as_/\((x=x/\(ts=ts/\(as_=as_/\((br ((@List.nil J).length+ts.length) 40/\(x=x/\(as_=as_/\(qf gg x ts as_))))/\((x=x/\(ts=ts/\(as_=as_/\(br ((@List.nil J).length+ts.length) 40/\(qf gg x ts as_)))))/\True)))))/\((x=x/\(ts=ts/\(as_=as_/\(x=x/\(ts=ts/\(as_=as_/\(br ((@List.nil J).length+ts.length) 40/\(qf gg x ts as_))))))))/\True)))))))):=by kernel_rfl
theorem KX(hE:aG [de])(hO:fW [qX])(hM:gZ [])(hS:fX []):aJ.eA ig:=by
 refine⟨aA zw rfl (by decide),?_⟩
 show ∀ (gg:aO) (x:J) (ts:List J) (as_:List J),(iv ts as_ x/\aZ 62 62 x=true/\Lk ts as_/\ts.length<=1000/\as_.length<=1000)->iI prog tZ [.val ⟨(.st .sig),gg⟩, .val ⟨(.st .expr),x⟩, .val ⟨(.slice (.st .expr)),ts⟩, .val ⟨(.slice (.st .expr)),as_⟩] [⟨(.st .expr),jR gg x ts as_⟩,⟨(.int .i64),nC gg x ts as_⟩]
 intro gg x ts as_ hp
 refine ec (own:=[18]) (wr:=[]) (cl:=[]) (ro:=[4,5]) hE hO hM hS zw HU (Ar gg x ts as_) ?_
 rewrite [Lg gg x ts as_]
 refine λ _ _=>⟨rfl,rfl,rfl,⟨rfl,rfl,rfl,⟨?_,rfl,rfl,rfl,rfl,?_,rfl,?_,λ _=>⟨?_,?_⟩,λ _=>⟨?_,?_⟩⟩,⟨rfl,rfl,rfl,?_,rfl,rfl,?_,rfl,?_,λ _=>⟨?_,?_⟩,λ _=>⟨?_,?_⟩⟩,trivial⟩,⟨rfl,rfl,rfl,rfl,rfl,rfl,?_,rfl,rfl,?_,rfl,?_,λ _=>⟨?_,?_⟩,λ _=>⟨?_,?_⟩⟩,trivial⟩
 all_goals try and_intros
 all_goals try (first|with_reducible rfl|with_reducible assumption)
 all_goals try simp only[J.eta,ae.eta,aj.eta,aP,bM,cn] at *
 all_goals first|with_reducible rfl|with_reducible assumption|exact True.intro|omega|exact (A2 (by with_reducible assumption)).1|exact ((A2 (by with_reducible assumption)).1).symm|exact (A2 (by with_reducible assumption)).2|exact ((A2 (by with_reducible assumption)).2).symm|exact (Dv (by with_reducible assumption)).1|exact ((Dv (by with_reducible assumption)).1).symm|exact (Dv (by with_reducible assumption)).2|exact ((Dv (by with_reducible assumption)).2).symm|exact hp.1|exact hp.2.1|exact hp.2.2.1|(simp only[a8T,J.eta,a8p,a8q,a8x,a8v,a8J,a8X,aw,O,br,a8K,a8C,a8N,a8R,a8U] at *;first|omega|exact (A2 (by with_reducible assumption)).1|exact ((A2 (by with_reducible assumption)).1).symm|exact (A2 (by with_reducible assumption)).2|exact ((A2 (by with_reducible assumption)).2).symm|exact (Dv (by with_reducible assumption)).1|exact ((Dv (by with_reducible assumption)).1).symm|exact (Dv (by with_reducible assumption)).2|exact ((Dv (by with_reducible assumption)).2).symm)
theorem GO:aJ.eA ig:=KX ⟨oL,trivial⟩ ⟨KS,trivial⟩ trivial trivial
def jI(n:Nat):aJ:=⟨pR,[.v (.st .expr), .v (.slice (.int .i64)), .v (.st .expr)],λ (x:J) (ps:List Int) (y:J)=>⟨(some (ps.length<n/\eH x ps=true/\ar x<=1048576/\ar y<=1048576/\ps.length<=1000),[⟨(.st .expr),gv y x ps⟩])⟩⟩
def oP:aJ:=⟨pR,[.v (.st .expr), .v (.slice (.int .i64)), .v (.st .expr)],λ (x:J) (ps:List Int) (y:J)=>⟨(some (eH x ps=true/\ar x<=1048576/\ar y<=1048576/\ps.length<=1000),[⟨(.st .expr),gv y x ps⟩])⟩⟩
def At(x:J)(ps:List Int)(y:J):Nat->aH:=(λ zb=>if Nat.beq zb 0 then .mk (Nat) (λ i=>i<=x.M.length) (λ i=>x.M.length - i) [] [0,2,3,4,10,11,12,13,14,15,16,17,18,19,20] (λ i=>[(23, .aW ⟨(.int .i64),((i:Int):Int)⟩)]) [1,5,6,8,9,21,22,23,24,25,26,27,28,29,30,31,32,33,34,35,36,37,38,39,40,41,42,43,44,45,46,47,48,49,50,51] (λ i=>[(7, .box [.aW ⟨(.int .i64),(x.ak:Int)⟩, .aW ⟨(.int .i64),(x.aI:Int)⟩, .aE 5800]),(5800, .aE (.st .expr) ((IK y x ps).take i:List J))]) [] [] (λ i=>λ _ => .none) else .none)
abbrev qg(x:J)(i1:Nat):Prop:=((x.M.getD i1 zE).ak=(x.M.getD i1 zE).ak/\((x.M.getD i1 zE).aI=(x.M.getD i1 zE).aI/\((x.M.getD i1 zE).M=(x.M.getD i1 zE).M/\True)))
abbrev wK(x:J)(ps:List Int)(y:J)(i1:Nat)(i2:Nat):Prop:=(ps=ps/\(y=y/\(True/\(True/\(x.M=x.M/\(((x.M.length:Int))=((x.M.length:Int))/\(((i1:Int)+(1:Int))=(i2:Int)/\True)))))))
theorem Li(n:Nat)(x:J)(ps:List Int)(y:J):ck (cY [] [jI n,fH] [] [14,39,40,41,46,47,48] [] [] [3,5]) (au je) (At x ps y) 0 (fI (cY [] [jI n,fH] [] [14,39,40,41,46,47,48] [] [] [3,5]) je λ r=>bp r [⟨(.st .expr),gv y x ps⟩]) (jN je [.val ⟨(.st .expr),x⟩, .val ⟨(.slice (.int .i64)),ps⟩, .val ⟨(.st .expr),y⟩]) =
 ((O ((ps.length:Int)) ->
 (((decide (((ps.length:Int))=(0:Int)))=true ->
 (ar y<=1048576/\(ag y)=(gv y x ps)))/\((decide (((ps.length:Int))=(0:Int)))=false ->
 (O x.ak ->
 (O x.aI ->
 (x.M.length<=140737488355328 ->
 (O ((x.M.length:Int)) ->
 ((∃ i1:Nat,(i1<=x.M.length/\((ps=ps/\(y=y/\(True/\(True/\(x.M=x.M/\(((x.M.length:Int))=((x.M.length:Int))/\((0:Int)=(i1:Int)/\True)))))))/\((x.ak=x.ak/\(x.aI=x.aI/\(True/\True)))/\(((IK y x ps).take i1)=[]/\(((0:Int)=(0:Int)/\((0:Int)=(0:Int)/\(True/\True)))/\True))))))/\(∀ i1:Nat,(i1<=x.M.length ->
 (((decide ((i1:Int)<((x.M.length:Int))))=true ->
 (aw (i1:Int) x.M.length/\(aw (0:Int) ps.length/\(O (ps.getD 0 (0:Int)) ->
 (((decide ((i1:Int)=(ps.getD 0 (0:Int))))=true ->
 (ps.length<=140737488355328 ->
 (((7:Nat)=7/\(2:Nat)=2)/\((5800:Nat)=5800/\((qg x i1)/\(ps=ps/\(y=y/\(cW (1:Int) ((ps.length:Int)) ps.length/\(((7:Nat)=7/\(2:Nat)=2)/\((5800:Nat)=5800/\((qg x i1)/\(y=y/\((((ps.take (Int.toNat ((ps.length:Int)))).drop 1).length<n/\eH (ag (x.M.getD i1 zE)) ((ps.take (Int.toNat ((ps.length:Int)))).drop 1)=true/\ar (ag (x.M.getD i1 zE))<=1048576/\ar y<=1048576/\((ps.take (Int.toNat ((ps.length:Int)))).drop 1).length<=1000)/\(((7:Nat)=7/\(2:Nat)=2)/\((5800:Nat)=5800/\(((7:Nat)=7/\(2:Nat)=2)/\((5800:Nat)=5800/\(br (((IK y x ps).take i1).length+([(ag (gv y (ag (x.M.getD i1 zE)) ((ps.take (Int.toNat ((ps.length:Int)))).drop 1)))]).length) 40/\(O ((i1:Int)+(1:Int))/\(∃ i2:Nat,(i2<=x.M.length/\(x.M.length - i2<x.M.length - i1/\((wK x ps y i1 i2)/\((x.ak=x.ak/\(x.aI=x.aI/\(True/\True)))/\((((IK y x ps).take i1)++([(ag (gv y (ag (x.M.getD i1 zE)) ((ps.take (Int.toNat ((ps.length:Int)))).drop 1)))]))=((IK y x ps).take i2)/\(((0:Int)=(0:Int)/\((0:Int)=(0:Int)/\(True/\True)))/\True))))))))))))))))))))))))))/\((decide ((i1:Int)=(ps.getD 0 (0:Int))))=false ->
 (((7:Nat)=7/\(2:Nat)=2)/\((5800:Nat)=5800/\((qg x i1)/\(ar (ag (x.M.getD i1 zE))<=1048576/\(((7:Nat)=7/\(2:Nat)=2)/\((5800:Nat)=5800/\(((7:Nat)=7/\(2:Nat)=2)/\((5800:Nat)=5800/\(br (((IK y x ps).take i1).length+([(ag (x.M.getD i1 zE))]).length) 40/\(O ((i1:Int)+(1:Int))/\(∃ i2:Nat,(i2<=x.M.length/\(x.M.length - i2<x.M.length - i1/\((wK x ps y i1 i2)/\((x.ak=x.ak/\(x.aI=x.aI/\(True/\True)))/\((((IK y x ps).take i1)++([(ag (x.M.getD i1 zE))]))=((IK y x ps).take i2)/\(((0:Int)=(0:Int)/\((0:Int)=(0:Int)/\(True/\True)))/\True)))))))))))))))))))))))/\((decide ((i1:Int)<((x.M.length:Int))))=false ->
 (J.mk x.ak x.aI ((IK y x ps).take i1))=(gv y x ps)))))))))))))):=by kernel_rfl
theorem KZ(n:Nat)(hE:aG [])(hO:fW [jI n,fH])(hM:gZ [])(hS:fX []):aJ.eA (jI (n+1)):=by
 refine⟨aA oJ rfl (by decide),?_⟩
 show ∀ (x:J) (ps:List Int) (y:J),(ps.length<n+1/\eH x ps=true/\ar x<=1048576/\ar y<=1048576/\ps.length<=1000)->iI prog pR [.val ⟨(.st .expr),x⟩, .val ⟨(.slice (.int .i64)),ps⟩, .val ⟨(.st .expr),y⟩] [⟨(.st .expr),gv y x ps⟩]
 intro x ps y hp
 refine ec (own:=[14,39,40,41,46,47,48]) (wr:=[]) (cl:=[]) (ro:=[3,5]) hE hO hM hS oJ HW (At x ps y) ?_
 rewrite [Li n x ps y]
 obtain⟨hm,g0,g1,g2,g3⟩:=hp
 rw[sr] at g1
 have f1:=λ i (h:i<x.M.length)=>sq ar zE x.M i h
 have f9:ps.take (Int.toNat (ps.length:Int))=ps:=by simp
 have f8:(IK y x ps).take 0=[]:=a9D
 refine λ _=>⟨λ _=>⟨?_,?_⟩,λ _ _ _ _ _=>⟨⟨0,?_,⟨rfl,rfl,trivial,trivial,rfl,rfl,?_,trivial⟩,⟨rfl,rfl,trivial,trivial⟩,?_,⟨rfl,rfl,trivial,trivial⟩,trivial⟩,λ i1 _=>⟨λ _=>⟨?_,?_,λ _=>⟨λ _ _=>⟨⟨?_,?_⟩,?_,⟨rfl,rfl,rfl,?_⟩,rfl,rfl,?_,⟨?_,?_⟩,?_,⟨rfl,rfl,rfl,?_⟩,rfl,?_,⟨?_,?_⟩,?_,⟨?_,?_⟩,?_,?_,?_,i1+1,?_,?_,⟨rfl,rfl,trivial,trivial,rfl,rfl,?_,trivial⟩,⟨rfl,rfl,trivial,trivial⟩,?_,⟨rfl,rfl,trivial,trivial⟩,trivial⟩,λ _=>⟨⟨?_,?_⟩,?_,⟨rfl,rfl,rfl,?_⟩,?_,⟨?_,?_⟩,?_,⟨?_,?_⟩,?_,?_,?_,i1+1,?_,?_,⟨rfl,rfl,trivial,trivial,rfl,rfl,?_,trivial⟩,⟨rfl,rfl,trivial,trivial⟩,?_,⟨rfl,rfl,trivial,trivial⟩,trivial⟩⟩⟩,λ _=>?_⟩⟩⟩
 all_goals try and_intros
 all_goals try (first|with_reducible rfl|with_reducible assumption)
 all_goals try simp only[J.eta,ae.eta,aj.eta,aP,bM,cn] at *
 all_goals first|with_reducible rfl|with_reducible assumption|exact True.intro|((try simp only[a8T,J.eta,a8p,a8q,a8x,a8v,a8J,a8X,aw,O,br,a8K,a8C,a8N,a8R,a8U] at *);(try simp only[f9]);first|exact True.intro|omega|exact f8.symm|(rw[a9w];omega)|(rw[a7v y x ps (by omega)];done)|(rw[a0y y x ps (by omega) i1 (by omega) (Zy (by omega) g0).1.1,a8O (by omega)];done)|(rw[a0y y x ps (by omega) i1 (by omega) (Zy (by omega) g0).1.1,a8y (by omega)];done)|exact Yh y x ps (by omega) i1 (by omega)|exact (Yh y x ps (by omega) i1 (by omega)).symm|(have h1:=(Zy (by omega) g0).2;rw[show (ps.getD 0 0).toNat=i1 by omega] at h1;exact h1)|(have h1:=f1 i1 (by omega);omega)|(have h1:=a9w (l:=ps) (i:=1);omega)|(rw[a9w];omega))
theorem RG:∀ n,fW [jI n]
 | 0=>⟨⟨aA oJ rfl (by decide),λ _ _ _ h=>absurd h.1 (a9p _)⟩,trivial⟩
 | n+1=>by
  have ih:=RG n
  exact⟨KZ n trivial ⟨ih.1,vy,trivial⟩ trivial trivial,trivial⟩
theorem GQ:aJ.eA oP :=
 ⟨aA oJ rfl (by decide),λ x ps y hp=>(RG (ps.length+1)).1.2 x ps y (⟨a9h _,hp⟩)⟩
def jG:aJ:=⟨s9,[.v (.st .sig), .v (.st .expr), .v (.slice (.int .i64)), .v (.st .expr)],λ (gg:aO) (x:J) (ps:List Int) (y:J)=>⟨(some (ar x<=1048576/\ar y<=1048576/\ps.length<=1000),[⟨(.st .expr),wv gg x ps y⟩,⟨(.int .i64),qn gg x ps y⟩])⟩⟩
def yj(gg:aO)(x:J)(ps:List Int)(y:J):Nat->aH:=λ _ => .none
abbrev vm(gg:aO)(x:J)(ps:List Int)(y:J):Prop:=((eH x ps=true/\ar x<=1048576/\ar y<=1048576/\ps.length<=1000)/\(((!(cg gg (ag (gv y x ps))))=true ->
 (zE=(wv gg x ps y)/\(3:Int)=(qn gg x ps y)))/\((!(cg gg (ag (gv y x ps))))=false ->
 ((ag (gv y x ps))=(wv gg x ps y)/\(0:Int)=(qn gg x ps y)))))
theorem IU(gg:aO)(x:J)(ps:List Int)(y:J):ck (cY [de,gO,cx] [oP] [] [34] [] [] [4,5,7]) (au ia) (yj gg x ps y) 0 (fI (cY [de,gO,cx] [oP] [] [34] [] [] [4,5,7]) ia λ r=>bp r [⟨(.st .expr),wv gg x ps y⟩,⟨(.int .i64),qn gg x ps y⟩]) (jN ia [.val ⟨(.st .sig),gg⟩, .val ⟨(.st .expr),x⟩, .val ⟨(.slice (.int .i64)),ps⟩, .val ⟨(.st .expr),y⟩]) =
 ((((!(eH x ps))=true ->
 (zE=(wv gg x ps y)/\(2:Int)=(qn gg x ps y)))/\((!(eH x ps))=false ->
 (((xe x ps)=true ->
 (((!(bj y))=true ->
 (zE=(wv gg x ps y)/\(4:Int)=(qn gg x ps y)))/\((!(bj y))=false ->
 (vm gg x ps y))))/\((xe x ps)=(!true) ->
 ((false=true ->
 (zE=(wv gg x ps y)/\(4:Int)=(qn gg x ps y)))/\(false=false ->
 (vm gg x ps y)))))))):=by kernel_rfl
theorem II(hE:aG [de,gO,cx])(hO:fW [oP])(hM:gZ [])(hS:fX []):aJ.eA jG:=by
 refine⟨aA xy rfl (by decide),?_⟩
 show ∀ (gg:aO) (x:J) (ps:List Int) (y:J),(ar x<=1048576/\ar y<=1048576/\ps.length<=1000)->iI prog s9 [.val ⟨(.st .sig),gg⟩, .val ⟨(.st .expr),x⟩, .val ⟨(.slice (.int .i64)),ps⟩, .val ⟨(.st .expr),y⟩] [⟨(.st .expr),wv gg x ps y⟩,⟨(.int .i64),qn gg x ps y⟩]
 intro gg x ps y hp
 refine ec (own:=[34]) (wr:=[]) (cl:=[]) (ro:=[4,5,7]) hE hO hM hS xy FK (yj gg x ps y) ?_
 rewrite [IU gg x ps y]
 refine⟨λ _=>⟨?_,?_⟩,λ _=>⟨λ _=>⟨λ _=>⟨?_,?_⟩,λ _=>⟨?_,λ _=>⟨?_,?_⟩,λ _=>⟨?_,?_⟩⟩⟩,λ _=>⟨λ _=>⟨?_,?_⟩,λ _=>⟨?_,λ _=>⟨?_,?_⟩,λ _=>⟨?_,?_⟩⟩⟩⟩⟩
 all_goals try and_intros
 all_goals try (first|with_reducible rfl|with_reducible assumption)
 all_goals try simp only[J.eta,ae.eta,aj.eta,aP,bM,cn] at *
 all_goals first|with_reducible rfl|with_reducible assumption|exact True.intro|(simp only[a8B,a8w,a8x,a8v] at *;done)|((try simp only[a8T,J.eta,a8p,a8q,a8x,a8v,a8J,a8X,aw,O,br,a8K,a8C,a8N,a8R,a8U] at *);first|exact True.intro|omega|exact (TF (by with_reducible assumption)).1|exact ((TF (by with_reducible assumption)).1).symm|exact (TF (by with_reducible assumption)).2|exact ((TF (by with_reducible assumption)).2).symm|exact (O8 (by with_reducible assumption) (by with_reducible assumption) (by with_reducible assumption)).1|exact ((O8 (by with_reducible assumption) (by with_reducible assumption) (by with_reducible assumption)).1).symm|exact (O8 (by with_reducible assumption) (by with_reducible assumption) (by with_reducible assumption)).2|exact ((O8 (by with_reducible assumption) (by with_reducible assumption) (by with_reducible assumption)).2).symm|exact (mM (by with_reducible assumption) (.inl (by with_reducible assumption)) true (by with_reducible assumption)).1|exact ((mM (by with_reducible assumption) (.inl (by with_reducible assumption)) true (by with_reducible assumption)).1).symm|exact (mM (by with_reducible assumption) (.inl (by with_reducible assumption)) true (by with_reducible assumption)).2|exact ((mM (by with_reducible assumption) (.inl (by with_reducible assumption)) true (by with_reducible assumption)).2).symm|exact (mM (by with_reducible assumption) (.inl (by with_reducible assumption)) false (by with_reducible assumption)).1|exact ((mM (by with_reducible assumption) (.inl (by with_reducible assumption)) false (by with_reducible assumption)).1).symm|exact (mM (by with_reducible assumption) (.inl (by with_reducible assumption)) false (by with_reducible assumption)).2|exact ((mM (by with_reducible assumption) (.inl (by with_reducible assumption)) false (by with_reducible assumption)).2).symm|exact (mM (by with_reducible assumption) (.inr (by with_reducible assumption)) true (by with_reducible assumption)).1|exact ((mM (by with_reducible assumption) (.inr (by with_reducible assumption)) true (by with_reducible assumption)).1).symm|exact (mM (by with_reducible assumption) (.inr (by with_reducible assumption)) true (by with_reducible assumption)).2|exact ((mM (by with_reducible assumption) (.inr (by with_reducible assumption)) true (by with_reducible assumption)).2).symm|exact (mM (by with_reducible assumption) (.inr (by with_reducible assumption)) false (by with_reducible assumption)).1|exact ((mM (by with_reducible assumption) (.inr (by with_reducible assumption)) false (by with_reducible assumption)).1).symm|exact (mM (by with_reducible assumption) (.inr (by with_reducible assumption)) false (by with_reducible assumption)).2|exact ((mM (by with_reducible assumption) (.inr (by with_reducible assumption)) false (by with_reducible assumption)).2).symm)
theorem Ff:aJ.eA jG:=II ⟨oL,zP,iL,trivial⟩ ⟨GQ,trivial⟩ trivial trivial
end
end Go.Proofs.YtmjfpcajohhbeaaGreatDoor

set_option maxRecDepth 4000
set_option maxHeartbeats 4000000
namespace Go.Proofs.YtmjfpcajohhbeaaGreatDoor
noncomputable section
def W9{α:Type}(F:α->α->Prop×Bool)(z:α)(xs ys:List α):Prop:=∀ i,i<xs.length->i<ys.length->(F (xs.getD i z) (ys.getD i z)).1
def dR{α:Type}(f:α->α->Bool):List α->List α->Bool
 | [],[]=>true
 | x::xs,y::ys=>f x y&&dR f xs ys
 | _,_=>false
theorem UH{α:Type}(f:α->α->Bool):∀ xs ys:List α,dR f xs ys=true->xs.length=ys.length
 | [],[],_=>rfl
 | x::xs,y::ys,h=>by
  simp only[dR,a8r] at h
  simp[UH f xs ys h.2]
 | [],_::_,h=>by cases h
 | _::_,[],h=>by cases h
theorem a1K{α:Type}(f:α->α->Bool)(xs ys:List α)(h:xs.length≠ys.length):dR f xs ys=false:=by
 cases hb:dR f xs ys
 .rfl
 .exact absurd (UH f xs ys hb) h
theorem NW{α:Type}(f:α->α->Bool)(z:α):∀ xs ys:List α,dR f xs ys=true↔xs.length=ys.length/\∀ i,i<xs.length->f (xs.getD i z) (ys.getD i z)=true
 | [],[]=>by simp[dR]
 | [],_::_=>by simp[dR]
 | _::_,[]=>by simp[dR]
 | x::xs,y::ys=>by
  simp only[dR,a8r,NW f z xs ys,a8C,Nat.add_right_cancel_iff]
  constructor
  .rintro⟨h1,h2,h3⟩
   refine⟨h2,λ i hi=>?_⟩
   cases i with
   | zero=>simpa using h1
   | succ i=>simpa using h3 i (by omega)
  .rintro⟨h1,h2⟩
   exact⟨by simpa using h2 0 (by omega),h1,λ i hi=>by simpa using h2 (i+1) (by omega)⟩
theorem a1J{α:Type}(f:α->α->Bool)(z:α)(xs ys:List α)(k:Nat)(h:xs.length=ys.length)(hk:k<xs.length)(hf:f (xs.getD k z) (ys.getD k z)=false):dR f xs ys=false:=by
 cases hb:dR f xs ys
 .rfl
 .have:=((NW f z xs ys).1 hb).2 k hk
  rw[this] at hf;cases hf
theorem YA{α:Type}(f:α->α->Bool)(z:α)(xs ys:List α)(k:Nat)(h:xs.length=ys.length)(hk:xs.length<=k)(ha:dR f (xs.take k) (ys.take k)=true):dR f xs ys=true:=by
 rwa [a9d hk,a9d (by omega)] at ha
theorem Yz{α:Type}(f:α->α->Bool)(z:α)(xs ys:List α)(k:Nat)(h1:k<xs.length)(h2:k<ys.length)(ha:dR f (xs.take k) (ys.take k)=true)(hf:f (xs.getD k z) (ys.getD k z)=true):dR f (xs.take (k+1)) (ys.take (k+1))=true:=by
 rw[NW f z] at ha ⊢
 simp only[a8U,a8H] at ha hf ⊢
 refine⟨by omega,λ i hi=>?_⟩
 rcases a9t i k with hik|hik
 .have:=ha.2 i (by omega)
  simpa [List.getElem?_take,hik,show i<k+1 by omega] using this
 .have:i=k:=by omega
  subst this
  simpa [List.getElem?_take] using hf
theorem UG{α:Type}:∀ xs ys:List α,dR bw xs ys=bw xs ys
 | [],[]=>by simp[dR]
 | [],_::_=>by simp[dR,bw]
 | _::_,[]=>by simp[dR,bw]
 | x::xs,y::ys=>by
  rw[dR,UG xs ys]
  refine b1A.2 ?_
  simp
theorem UW(x y:J):bw x y=(decide (x.ak=y.ak)&&decide (x.aI=y.aI)&&bw x.M y.M):=by
 refine b1A.2 ?_
 cases x;cases y;simp[and_assoc]
def eP:aJ:=⟨lf,[.v (.slice (.st .expr)), .v (.slice (.st .expr)), .c [(.st .expr),(.st .expr)] .bool],λ (xs:List J) (ys:List J) (F:J->J->Prop×Bool)=>⟨(some (W9 F zE xs ys),[⟨.bool,dR (λ x y=>(F x y).2) xs ys⟩])⟩⟩
def qz(xs:List J)(ys:List J)(F:J->J->Prop×Bool):Nat->aH:=(λ zb=>if Nat.beq zb 0 then .mk (Nat) (λ k=>k<=xs.length/\xs.length=ys.length/\dR (λ x y=>(F x y).2) (xs.take k) (ys.take k)=true) (λ k=>xs.length - k) [] [0,3,4,5,10,11,12,13,14] (λ k=>[(17, .aW ⟨(.int .i64),((k:Int):Int)⟩)]) [1,2,6,7,8,9,15,16,17,18,19,20,21,22,23,24,25,26,27,28,29,30,31] (λ k=>[]) [] [] (λ k=>λ _ => .none) else .none)
theorem zk(xs:List J)(ys:List J)(F:J->J->Prop×Bool):ck (aL []) (au dK) (qz xs ys F) 0 (bg (aL []) dK λ r=>bp r [⟨.bool,dR (λ x y=>(F x y).2) xs ys⟩]) (aD dK [.val ⟨(.slice (.st .expr)),xs⟩, .val ⟨(.slice (.st .expr)),ys⟩, .dq ⟨[(.st .expr),(.st .expr)], .bool,F⟩]) =
 ((O ((xs.length:Int)) ->
 (O ((ys.length:Int)) ->
 (((!(decide (((xs.length:Int))=((ys.length:Int)))))=true ->
 false=(dR (λ x y=>(F x y).2) xs ys))/\((!(decide (((xs.length:Int))=((ys.length:Int)))))=false ->
 (O ((xs.length:Int)) ->
 ((∃ k1:Nat,((k1<=xs.length/\xs.length=ys.length/\dR (λ x y=>(F x y).2) (xs.take k1) (ys.take k1)=true)/\((ys=ys/\(F=F/\(xs=xs/\(((xs.length:Int))=((xs.length:Int))/\((0:Int)=(k1:Int)/\True)))))/\True)))/\(∀ k1:Nat,((k1<=xs.length/\xs.length=ys.length/\dR (λ x y=>(F x y).2) (xs.take k1) (ys.take k1)=true) ->
 (((decide ((k1:Int)<((xs.length:Int))))=true ->
 (aw (k1:Int) xs.length/\(aw (k1:Int) ys.length/\((F (ag (xs.getD k1 zE)) (ag (ys.getD k1 zE))).1/\(((!((F (ag (xs.getD k1 zE)) (ag (ys.getD k1 zE))).2))=true ->
 false=(dR (λ x y=>(F x y).2) xs ys))/\((!((F (ag (xs.getD k1 zE)) (ag (ys.getD k1 zE))).2))=false ->
 (O ((k1:Int)+(1:Int))/\(∃ k2:Nat,((k2<=xs.length/\xs.length=ys.length/\dR (λ x y=>(F x y).2) (xs.take k2) (ys.take k2)=true)/\(xs.length - k2<xs.length - k1/\((ys=ys/\(F=F/\(xs=xs/\(((xs.length:Int))=((xs.length:Int))/\(((k1:Int)+(1:Int))=(k2:Int)/\True)))))/\True)))))))))))/\((decide ((k1:Int)<((xs.length:Int))))=false ->
 true=(dR (λ x y=>(F x y).2) xs ys)))))))))))):=by kernel_rfl
theorem zh(hE:aG []):aJ.Good eP:=by
 refine⟨aA pY rfl (by decide),?_⟩
 show ∀ (xs:List J) (ys:List J) (F:J->J->Prop×Bool),(W9 F zE xs ys)->bh prog lf [.val ⟨(.slice (.st .expr)),xs⟩, .val ⟨(.slice (.st .expr)),ys⟩, .dq ⟨[(.st .expr),(.st .expr)], .bool,F⟩] (·=[⟨.bool,dR (λ x y=>(F x y).2) xs ys⟩])
 intro xs ys F hp
 refine aM (wr:=[]) (cl:=[]) (ro:=[]) hE pY wT (qz xs ys F) ?_
 rewrite [zk xs ys F]
 have f0:=a1K (λ x y=>(F x y).2) xs ys
 refine λ _ _=>⟨λ _=>?_,λ _ _=>⟨⟨0,?_,⟨rfl,rfl,rfl,rfl,?_,trivial⟩,trivial⟩,λ k1 _=>have a6f:=hp k1;have a6g:=a1J (λ x y=>(F x y).2) zE xs ys k1;have a6h:=YA (λ x y=>(F x y).2) zE xs ys k1;have a6i:=Yz (λ x y=>(F x y).2) zE xs ys k1;⟨λ _=>⟨?_,?_,?_,λ _=>?_,λ _=>⟨?_,k1+1,?_,?_,⟨rfl,rfl,rfl,rfl,?_,trivial⟩,trivial⟩⟩,λ _=>?_⟩⟩⟩
 all_goals try and_intros
 all_goals try (first|with_reducible rfl|with_reducible assumption)
 all_goals try simp only[J.eta,ae.eta,aj.eta,aP,bM,cn] at *
 all_goals first|rfl|trivial|(simp only[a8p,a8q,aw,O] at *;first|omega|grind)|(simp[dR];done)|grind
theorem wW:aJ.Good eP:=zh trivial
def na(n:Nat):J->J->Prop×Bool:=λ (x:J) (y:J)=>((cz x<n),bw x y)
def uz:Nat×FA:=(mK,⟨[(.st .expr),(.st .expr)], .bool,[]⟩)
theorem YE(n:Nat)(xs ys:List J)(h:cz xs<=n):W9 (na n) zE xs ys:=λ i hi _=>by
 have:=cq zE xs i hi
 show cz (xs.getD i _)<n
 omega
theorem YB(n:Nat)(xs ys:List J):dR (λ x y=>(na n x y).2) xs ys=bw xs ys:=UG xs ys
def kN(n:Nat):aJ:=⟨mK,[.v (.st .expr), .v (.st .expr)],λ (x:J) (y:J)=>⟨(some (cz x<n),[⟨.bool,bw x y⟩])⟩⟩
def cX:aJ:=⟨mK,[.v (.st .expr), .v (.st .expr)],λ (x:J) (y:J)=>⟨(none,[⟨.bool,bw x y⟩])⟩⟩
def Cq(x:J)(y:J):Nat->aH:=λ _ => .none
abbrev xU(n:Nat)(x:J)(y:J):Prop:=(x.M.length<=140737488355328 ->
 (y.M.length<=140737488355328 ->
 (W9 (na n) zE x.M y.M/\(dR (λ x y=>((na n) x y).2) x.M y.M)=(bw x y))))
theorem Nx(n:Nat)(x:J)(y:J):ck (aL [kN n,eP] [] [uz] [2,3]) (au iY) (Cq x y) 0 (bg (aL [kN n,eP] [] [uz] [2,3]) iY λ r=>bp r [⟨.bool,bw x y⟩]) (aD iY [.val ⟨(.st .expr),x⟩, .val ⟨(.st .expr),y⟩]) =
 ((O x.ak ->
 (O y.ak ->
 (((decide (x.ak=y.ak))=true ->
 (O x.aI ->
 (O y.aI ->
 (((decide (x.aI=y.aI))=true ->
 (xU n x y))/\((decide (x.aI=y.aI))=(!true) ->
 false=(bw x y))))))/\((decide (x.ak=y.ak))=(!true) ->
 ((false=true ->
 (xU n x y))/\(false=(!true) ->
 false=(bw x y)))))))):=by kernel_rfl
theorem MO(n:Nat)(hE:aG [kN n,eP]):aJ.Good (kN (n+1)):=by
 refine⟨aA oH rfl (by decide),?_⟩
 show ∀ (x:J) (y:J),(cz x<n+1)->bh prog mK [.val ⟨(.st .expr),x⟩, .val ⟨(.st .expr),y⟩] (·=[⟨.bool,bw x y⟩])
 intro x y hp
 refine aM (wr:=[]) (cl:=[uz]) (ro:=[2,3]) hE oH HQ (Cq x y) ?_
 rewrite [Nx n x y]
 have f0:=dV x
 have f1:=YE n x.M y.M
 have f2:=YB n x.M y.M
 have f3:=UW x y
 refine λ _ _=>⟨λ _ _ _=>⟨λ _ _ _=>⟨?_,?_⟩,λ _=>?_⟩,λ _=>⟨λ _ _ _=>⟨?_,?_⟩,λ _=>?_⟩⟩
 all_goals try and_intros
 all_goals first|rfl|trivial|(simp only[decide_eq_true_eq,decide_eq_false_iff_not,aw,O] at *;first|omega|grind)|grind [W9]
theorem PN :∀ n,aG [kN n]
 | 0=>⟨⟨aA oH rfl (by decide),λ _ _ h=>absurd h (a9p _)⟩,trivial⟩
 | n+1=>by
  have ih:=PN  n
  exact⟨MO n ⟨ih.1,wW,trivial⟩,trivial⟩
theorem lp :aJ.Good cX :=
 ⟨aA oH rfl (by decide),λ x y hp=>(PN  (cz x+1)).1.2 x y (a9h _)⟩
def mz(n:Nat):aJ:=⟨rf,[.r (.st .expr), .r (.st .expr)],λ (x:J) (y:J)=>⟨(some (cz x<n),[⟨.bool,bw x y⟩])⟩⟩
def ei:aJ:=⟨rf,[.r (.st .expr), .r (.st .expr)],λ (x:J) (y:J)=>⟨(none,[⟨.bool,bw x y⟩])⟩⟩
def Ez(x:J)(y:J):Nat->aH:=(λ zb=>if Nat.beq zb 0 then .mk (Nat) (λ k=>k<=x.M.length/\x.M.length=y.M.length/\x.M.take k=y.M.take k/\x.ak=y.ak/\x.aI=y.aI) (λ k=>x.M.length - k) [] [2,3,6,7,8,9,10,11,12,13,14,15,16,17,18,19,20,21,22,23,24,25,26,27,28,29,30,31,32,33,34,35,36,37,38] (λ k=>[(5, .aW ⟨(.int .i64),((k:Int):Int)⟩)]) [0,1,4,5,39,40,41,42,43,44,45,46,47,48,49,50,51,52,53,54,55,56,57,58,59,60,61] (λ k=>[]) [] [] (λ k=>λ _ => .none) else .none)
abbrev sM(n:Nat)(x:J)(y:J):Prop:=((∃ k1:Nat,((k1<=x.M.length/\x.M.length=y.M.length/\x.M.take k1=y.M.take k1/\x.ak=y.ak/\x.aI=y.aI)/\((x=x/\(y=y/\((0:Int)=(k1:Int)/\True)))/\True)))/\(∀ k1:Nat,((k1<=x.M.length/\x.M.length=y.M.length/\x.M.take k1=y.M.take k1/\x.ak=y.ak/\x.aI=y.aI) ->
 (x.M.length<=140737488355328 ->
 (O ((x.M.length:Int)) ->
 (((decide ((k1:Int)<((x.M.length:Int))))=true ->
 (aw (k1:Int) x.M.length/\(aw (k1:Int) y.M.length/\(x.M.length<=140737488355328 ->
 (y.M.length<=140737488355328 ->
 (cz (x.M.getD k1 zE)<n/\(((!(bw (x.M.getD k1 zE) (y.M.getD k1 zE)))=true ->
 false=(bw x y))/\((!(bw (x.M.getD k1 zE) (y.M.getD k1 zE)))=false ->
 (O ((k1:Int)+(1:Int))/\(∃ k2:Nat,((k2<=x.M.length/\x.M.length=y.M.length/\x.M.take k2=y.M.take k2/\x.ak=y.ak/\x.aI=y.aI)/\(x.M.length - k2<x.M.length - k1/\((x=x/\(y=y/\(((k1:Int)+(1:Int))=(k2:Int)/\True)))/\True)))))))))))))/\((decide ((k1:Int)<((x.M.length:Int))))=false ->
 true=(bw x y))))))))
abbrev z8(n:Nat)(x:J)(y:J):Prop:=(x.M.length<=140737488355328 ->
 (O ((x.M.length:Int)) ->
 (y.M.length<=140737488355328 ->
 (O ((y.M.length:Int)) ->
 (((!(decide (((x.M.length:Int))=((y.M.length:Int)))))=true ->
 false=(bw x y))/\((!(decide (((x.M.length:Int))=((y.M.length:Int)))))=false ->
 (sM n x y)))))))
theorem Ps(n:Nat)(x:J)(y:J):ck (aL [mz n]) (au kj) (Ez x y) 0 (bg (aL [mz n]) kj λ r=>bp r [⟨.bool,bw x y⟩]) (aD kj [.ref ⟨(.st .expr),x⟩, .ref ⟨(.st .expr),y⟩]) =
 ((((!(decide (x.ak=y.ak)))=false ->
 (((!(decide (x.aI=y.aI)))=false ->
 (O x.ak ->
 (O y.ak ->
 (O x.aI ->
 (O y.aI ->
 (z8 n x y))))))/\((!(decide (x.aI=y.aI)))=(!false) ->
 (O x.ak ->
 (O y.ak ->
 (O x.aI ->
 (O y.aI ->
 ((true=true ->
 false=(bw x y))/\(true=false ->
 (sM n x y))))))))))/\((!(decide (x.ak=y.ak)))=(!false) ->
 ((true=false ->
 (O x.ak ->
 (O y.ak ->
 (z8 n x y))))/\(true=(!false) ->
 (O x.ak ->
 (O y.ak ->
 ((true=true ->
 false=(bw x y))/\(true=false ->
 (sM n x y)))))))))):=by kernel_rfl
theorem OS(n:Nat)(hE:aG [mz n]):aJ.Good (mz (n+1)):=by
 refine⟨aA pC rfl (by decide),?_⟩
 show ∀ (x:J) (y:J),(cz x<n+1)->bh prog rf [.ref ⟨(.st .expr),x⟩, .ref ⟨(.st .expr),y⟩] (·=[⟨.bool,bw x y⟩])
 intro x y hp
 refine aM (wr:=[]) (cl:=[]) (ro:=[]) hE pC JU (Ez x y) ?_
 rewrite [Ps n x y]
 have f0:=dV x
 have f3:=UW x y
 refine⟨λ _=>⟨λ _ _ _ _ _ _ _ _ _=>⟨λ _=>?_,λ _=>⟨⟨0,?_,⟨rfl,rfl,?_,trivial⟩,trivial⟩,λ k1 _=>have YH:=iB zE x.M y.M k1;have YI:=dJ x.M y.M k1;have YJ:=cq zE x.M k1;λ _ _=>⟨λ _=>⟨?_,?_,λ _ _=>⟨?_,λ _=>?_,λ _=>⟨?_,k1+1,?_,?_,⟨rfl,rfl,?_,trivial⟩,trivial⟩⟩⟩,λ _=>?_⟩⟩⟩,λ _ _ _ _ _=>⟨λ _=>?_,λ _=>⟨⟨0,?_,⟨rfl,rfl,?_,trivial⟩,trivial⟩,λ k1 _=>have a1W:=iB zE x.M y.M k1;have a1X:=dJ x.M y.M k1;have a1Y:=cq zE x.M k1;λ _ _=>⟨λ _=>⟨?_,?_,λ _ _=>⟨?_,λ _=>?_,λ _=>⟨?_,k1+1,?_,?_,⟨rfl,rfl,?_,trivial⟩,trivial⟩⟩⟩,λ _=>?_⟩⟩⟩⟩,λ _=>⟨λ _ _ _ _ _ _ _=>⟨λ _=>?_,λ _=>⟨⟨0,?_,⟨rfl,rfl,?_,trivial⟩,trivial⟩,λ k1 _=>have a4w:=iB zE x.M y.M k1;have a4x:=dJ x.M y.M k1;have a4y:=cq zE x.M k1;λ _ _=>⟨λ _=>⟨?_,?_,λ _ _=>⟨?_,λ _=>?_,λ _=>⟨?_,k1+1,?_,?_,⟨rfl,rfl,?_,trivial⟩,trivial⟩⟩⟩,λ _=>?_⟩⟩⟩,λ _ _ _=>⟨λ _=>?_,λ _=>⟨⟨0,?_,⟨rfl,rfl,?_,trivial⟩,trivial⟩,λ k1 _=>have a6j:=iB zE x.M y.M k1;have a6k:=dJ x.M y.M k1;have a6l:=cq zE x.M k1;λ _ _=>⟨λ _=>⟨?_,?_,λ _ _=>⟨?_,λ _=>?_,λ _=>⟨?_,k1+1,?_,?_,⟨rfl,rfl,?_,trivial⟩,trivial⟩⟩⟩,λ _=>?_⟩⟩⟩⟩⟩
 all_goals try and_intros
 all_goals first|rfl|trivial|(simp only[decide_eq_true_eq,decide_eq_false_iff_not,Bool.not_eq_false',Bool.not_eq_true',decide_not,aw,O] at *;first|omega|grind)|grind [F0,a0N]
theorem PO :∀ n,aG [mz n]
 | 0=>⟨⟨aA pC rfl (by decide),λ _ _ h=>absurd h (a9p _)⟩,trivial⟩
 | n+1=>by
  have ih:=PO  n
  exact⟨OS n ⟨ih.1,trivial⟩,trivial⟩
theorem rm :aJ.Good ei :=
 ⟨aA pC rfl (by decide),λ x y hp=>(PO  (cz x+1)).1.2 x y (a9h _)⟩
end
end Go.Proofs.YtmjfpcajohhbeaaGreatDoor

namespace Go.Proofs
open Go.Shelf
def Tryz.WA:Go.Shelf.Ren:=⟨λ|145=>144|220=>148|219=>153|217=>160|225=>161|224=>162|267=>163|266=>169|314=>170|n=>n,λ|9=>9|4=>4|59=>175|3=>3|5=>5|46=>203|146=>214|51=>213|n=>n,λ|1=>0|n=>n⟩
theorem Tryz.a2O:Go.Proofs.Lays.n145 Tryz.prog Tryz.WA:={
 mixed:=by kernel_rfl
 f145:=Tryz.func144.trans (congrArg some (by kernel_rfl))
 f217:=Tryz.func160.trans (congrArg some (by kernel_rfl))
 f219:=Tryz.func153.trans (congrArg some (by kernel_rfl))
 f220:=Tryz.func148.trans (congrArg some (by kernel_rfl))
 f224:=Tryz.func162.trans (congrArg some (by kernel_rfl))
 f225:=Tryz.func161.trans (congrArg some (by kernel_rfl))
 f266:=Tryz.func169.trans (congrArg some (by kernel_rfl))
 f267:=Tryz.func163.trans (congrArg some (by kernel_rfl))
 f314:=Tryz.func170.trans (congrArg some (by kernel_rfl))
 t3:=Tryz.underlying3
 a3:=Tryz.isAgg3
 z3:=Tryz.sizeOf3
 v3:=Tryz.zeroValue3
 t4:=Tryz.underlying4
 a4:=Tryz.isAgg4
 z4:=Tryz.sizeOf4
 v4:=Tryz.zeroValue4
 t5:=Tryz.underlying5
 a5:=Tryz.isAgg5
 z5:=Tryz.sizeOf5
 v5:=Tryz.zeroValue5
 t9:=Tryz.underlying9
 a9:=Tryz.isAgg9
 z9:=Tryz.sizeOf9
 v9:=Tryz.zeroValue9
 t46:=Tryz.underlying203
 a46:=Tryz.isAgg203
 z46:=Tryz.sizeOf203
 v46:=Tryz.zeroValue203
 t51:=Tryz.underlying213
 a51:=Tryz.isAgg213
 z51:=Tryz.sizeOf213
 v51:=Tryz.zeroValue213
 t59:=Tryz.underlying175
 a59:=Tryz.isAgg175
 z59:=Tryz.sizeOf175
 v59:=Tryz.zeroValue175
 t146:=Tryz.underlying214
 a146:=Tryz.isAgg214
 z146:=Tryz.sizeOf214
 v146:=Tryz.zeroValue214
 g1:=by kernel_rfl }
open Go.RowKit Go.Lib in
theorem Tryz.strings_Cut(s sep:ByteArray)(m:Int)(w:World)(hs:s.size<4294967281)(hm:w.cell? ⟨0,0,none⟩=some (.int .i64 m)) :
  Calls Tryz.prog 144 #[.string s, .string sep] w λ e w'=>e = .returned (.tuple #[.string ⟨(Lib.cut s.data.toList sep.data.toList).1.toArray⟩, .string ⟨(Lib.cut s.data.toList sep.data.toList).2.1.toArray⟩, .bool (Lib.cut s.data.toList sep.data.toList).2.2])/\∃ n,w'=w.drewN n:=Any.strings_Cut Tryz.a2O s sep m w hs hm
end Go.Proofs

set_option maxRecDepth 4000
set_option maxHeartbeats 4000000
namespace Go.Proofs.YtmjfpcajohhbeaaGreatDoor
noncomputable section
open Go.RowKit Go.Proofs
def rR(s p:List UInt8):List UInt8:=(Lib.cut s p).1
def jO(s p:List UInt8):List UInt8:=(Lib.cut s p).2.1
def sD(s p:List UInt8):Bool:=(Lib.cut s p).2.2
def uZ(s p:List UInt8):List UInt8:=bif sD s p then rR s p else []
theorem X5(s p:List UInt8)(i:Nat):Lib.occAt s p i=true↔(s.take (i+p.length)).drop i=p:=by
 unfold Lib.occAt
 rw[List.isPrefixOf_iff_prefix,List.prefix_iff_eq_take,b1G,b0y]
 exact eq_comm
theorem a2g(s p:List UInt8)(i:Nat)(h:Lib.NoOcc s p i)(hi:i+p.length<=s.length)(e:(s.take (i+p.length)).drop i=p):uZ s p=s.take i/\jO s p=s.drop (i+p.length)/\sD s p=true:=by
 have hx:=Lib.index_hit h (by omega) ((X5 s p i).2 e)
 have hc:Lib.cut s p=(s.take i,s.drop (i+p.length),true):=by
  unfold Lib.cut
  rw[hx,a8O (by omega),a8E]
 simp[uZ,jO,sD,rR,hc]
theorem a3D(s p:List UInt8)(i:Nat)(h:Lib.NoOcc s p i)(e:¬ (s.take (i+p.length)).drop i=p):Lib.NoOcc s p (i+1) :=
 h.succ (by
  cases q:Lib.occAt s p i with
  | false=>rfl
  | true=>exact absurd ((X5 s p i).1 q) e)
theorem a2f(s p:List UInt8)(i:Nat)(h:Lib.NoOcc s p i)(hp:1<=p.length)(hi:s.length<i+p.length):uZ s p=[]/\jO s p=[]/\sD s p=false:=by
 have hx:=Lib.index_past (λ e=>by rw[e] at hp;simp at hp) h hi
 have hc:Lib.cut s p=(s,[],false):=by
  unfold Lib.cut
  rw[hx];rfl
 simp[uZ,jO,sD,rR,hc]
theorem natAdd(a b:Nat):((a:Int)+(b:Int)).toNat=a+b:=by omega
theorem UT(s p:List UInt8):(rR s p).length<=s.length/\(jO s p).length<=s.length:=by
 unfold rR jO Lib.cut
 split
 .simp only[a8U,a9w];omega
 .simp
def pc:aJ:=⟨yA,[.v .str, .v .str],λ (s:List UInt8) (p:List UInt8)=>⟨(some (s.length<=1048576/\1<=p.length/\p.length<=100),[⟨.str,uZ s p⟩,⟨.str,jO s p⟩,⟨.bool,sD s p⟩])⟩⟩
def GB(s:List UInt8)(p:List UInt8):Nat->aH:=(λ zb=>if Nat.beq zb 0 then .mk (Nat) (λ i=>Lib.NoOcc s p i/\i<=s.length) (λ i=>s.length - i) [] [2,3] (λ i=>[(7, .aW ⟨(.int .i64),((i:Int):Int)⟩)]) [0,1,4,5,6,7,8,9,10,11,12,13,14,15,16,17,18,19,20,21,22,23,24,25,26,27,28,29,30,31,32,33,34] (λ i=>[]) [] [] (λ i=>λ _ => .none) else .none)
theorem Rg(s:List UInt8)(p:List UInt8):ck (aL []) (au lW) (GB s p) 0 (bg (aL []) lW λ r=>bp r [⟨.str,uZ s p⟩,⟨.str,jO s p⟩,⟨.bool,sD s p⟩]) (aD lW [.val ⟨.str,s⟩, .val ⟨.str,p⟩]) =
 (((∃ i1:Nat,((Lib.NoOcc s p i1/\i1<=s.length)/\((s=s/\(p=p/\((0:Int)=(i1:Int)/\True)))/\True)))/\(∀ i1:Nat,((Lib.NoOcc s p i1/\i1<=s.length) ->
 (O ((p.length:Int)) ->
 (O ((i1:Int)+((p.length:Int)))/\(O ((s.length:Int)) ->
 (((decide (((i1:Int)+((p.length:Int)))<=((s.length:Int))))=true ->
 (O ((p.length:Int)) ->
 (O ((i1:Int)+((p.length:Int)))/\(cW (i1:Int) ((i1:Int)+((p.length:Int))) s.length/\(((decide (((s.take (Int.toNat ((i1:Int)+((p.length:Int))))).drop i1)=p))=true ->
 (cW (0:Int) (i1:Int) s.length/\(O ((i1:Int)+((p.length:Int)))/\(cW ((i1:Int)+((p.length:Int))) ((s.length:Int)) s.length/\(O ((p.length:Int)) ->
 (((s.take i1).drop 0)=(uZ s p)/\(((s.take (Int.toNat ((s.length:Int)))).drop (Int.toNat ((i1:Int)+((p.length:Int)))))=(jO s p)/\true=(sD s p))))))))/\((decide (((s.take (Int.toNat ((i1:Int)+((p.length:Int))))).drop i1)=p))=false ->
 (O ((i1:Int)+(1:Int))/\(∃ i2:Nat,((Lib.NoOcc s p i2/\i2<=s.length)/\(s.length - i2<s.length - i1/\((s=s/\(p=p/\(((i1:Int)+(1:Int))=(i2:Int)/\True)))/\True)))))))))))/\((decide (((i1:Int)+((p.length:Int)))<=((s.length:Int))))=false ->
 ([]=(uZ s p)/\([]=(jO s p)/\false=(sD s p)))))))))))):=by kernel_rfl
theorem Q0(hE:aG []):aJ.Good pc:=by
 refine⟨aA Ea rfl (by decide),?_⟩
 show ∀ (s:List UInt8) (p:List UInt8),(s.length<=1048576/\1<=p.length/\p.length<=100)->bh prog yA [.val ⟨.str,s⟩, .val ⟨.str,p⟩] (·=[⟨.str,uZ s p⟩,⟨.str,jO s p⟩,⟨.bool,sD s p⟩])
 intro s p hp
 refine aM (wr:=[]) (cl:=[]) (ro:=[]) hE Ea LR (GB s p) ?_
 rewrite [Rg s p]
 have f0:=Lib.NoOcc.zero s p
 refine⟨⟨0,?_,⟨rfl,rfl,?_,trivial⟩,trivial⟩,λ i1 _=>have a1S:=a2g s p i1;have a1T:=a3D s p i1;have a1U:=a2f s p i1;λ _=>⟨?_,λ _=>⟨λ _ _=>⟨?_,?_,λ _=>⟨?_,?_,?_,λ _=>⟨?_,?_,?_⟩⟩,λ _=>⟨?_,i1+1,?_,?_,⟨rfl,rfl,?_,trivial⟩,trivial⟩⟩,λ _=>⟨?_,?_,?_⟩⟩⟩⟩
 all_goals try and_intros
 all_goals first|rfl|trivial|omega|(simp only[a8p,a8q,aw,O,cW,natAdd,a8E,b1c] at *;first|omega|grind)|grind
theorem Mk:aJ.Good pc:=Q0 trivial
def sZ:aJ:=⟨GI,[.v .str, .v .str],λ (s:List UInt8) (p:List UInt8)=>⟨(some (s.length<=1048576),[⟨.str,rR s p⟩,⟨.str,jO s p⟩,⟨.bool,sD s p⟩])⟩⟩
theorem Mm:aJ.Good sZ:=by
 refine⟨aA Qw rfl (by decide),?_⟩
 intro (s:List UInt8) (p:List UInt8) hp w S cS hS ha
 match cS,ha with
 | [v,u],ha =>
  obtain⟨⟨x,hv,hx,vS⟩,⟨y,hu,hy,hyl⟩,_⟩:=ha
  simp only[a8z,a8F] at hv hu
  subst hv hu
  have hp2:s.length<=1048576:=hp
  obtain⟨_,m,hm⟩:=hS.2 0 (a9q.2 rfl)
  have ot:x.size<4294967281:=by
   have:x.data.toList.length=s.length:=congrArg List.length hx
   rw[b2z,this];omega
  have hl:=UT s p
  have ex:x.data.toList=s:=hx
  have ey:y.data.toList=p:=hy
  refine (Tryz.strings_Cut x y m w ot hm).mono ?_
  rw[ex,ey]
  rintro e w' ⟨rfl,n,rfl⟩
  refine⟨_,S,_,rfl,rfl,⟨rfl,rfl,rfl,a9i _,λ b _ _=>rfl⟩,λ b _=>b0w,λ b h=>hS.1 b h,[_,_,_],rfl,?_,?_,rfl,trivial⟩
  .refine⟨_,rfl,rfl,?_⟩
   have:(⟨(Lib.cut s p).1.toArray⟩:ByteArray).size=(rR s p).length:=by rw[b2z];rfl
   rw[this];omega
  .refine⟨_,rfl,rfl,?_⟩
   have:(⟨(Lib.cut s p).2.1.toArray⟩:ByteArray).size=(jO s p).length:=by rw[b2z];rfl
   rw[this];omega
end
end Go.Proofs.YtmjfpcajohhbeaaGreatDoor

set_option maxRecDepth 4000
set_option maxHeartbeats 4000000
namespace Go.Proofs.YtmjfpcajohhbeaaGreatDoor
open Go.RowKit Go.Proofs
theorem R2{B b:Nat}{p:Value}{bs:List Value}{w:World}(h:Lib.BuilderAt 196 5 B b p bs w)(o:Obj):Lib.BuilderAt 196 5 B b p bs (w.alloc o):=by
 obtain⟨hB,v,hb,va,fG⟩:=h
 exact⟨hB,v,by rw[Lib.alloc_old w o b (bI hb)];exact hb,va.alloc _,fG⟩
abbrev wQ(B b:Nat)(l:List UInt8)(w:World):Prop:=Lib.IsBuilder 196 5 B b (Lib.byteCells l) w
theorem o4{B b:Nat}{l:List UInt8}{w:World}(h:wQ B b l w)(o:Obj):wQ B b l (w.alloc o):=h.imp (λ h=>R2 h o) (λ h=>R2 h o)
theorem MD{B b:Nat}{l:List UInt8}{w:World}(h:wQ B b l w):b<w.heap.size:=by
 rcases h with h|h<;>exact h.lt
theorem rU{B:Nat}{w:World}(h:B<=w.heap.size)(o:Obj):B<=(w.alloc o).heap.size:=by simp;omega
theorem BZ{b:Nat}{w w1:World}{cs:Array Value}(h:ly b (w.alloc (.cells cs 38)) w1)(hb:b<w.heap.size)(j:Nat){v:Value}(hj:cs[j]?=some v):w1.cell? ⟨w.heap.size,j,none⟩=some v:=by
 have e:=h w.heap.size cs 38 (0,0) (b0U w _) (by decide) (by omega)
 rw[b1a (a:=⟨w.heap.size,j,none⟩) e,b1i (b0U w _)]
 exact hj
structure Wr(B b:Nat)(l t:List UInt8)(w w':World):Prop where
 Ot:wQ B b (l++t) w'
 p9:Below B w w'
 aU:ly b w w'
theorem Wr.trans{B b:Nat}{l t u:List UInt8}{w w1 w2:World}(h:Wr B b l t w w1)(k:Wr B b (l++t) u w1 w2):Wr B b l (t++u) w w2 :=
 ⟨by rw[<-a9r];exact k.Ot,h.p9.trans k.p9,h.aU.trans k.aU⟩
theorem Wr.alloc{B b:Nat}{l t:List UInt8}{w w1:World}{o:Obj}(h:Wr B b l t (w.alloc o) w1)(kZ:B<=w.heap.size):Wr B b l t w w1 :=
 ⟨h.Ot,((b1S B w).alloc kZ _).trans h.p9,((ly.refl b w).alloc _).trans h.aU⟩
theorem ws(B b:Nat)(l:List UInt8)(s:ByteArray)(w:World)(h:wQ B b l w)(hlen:l.length+s.data.toList.length<=140737488355328)(kZ:B<=w.heap.size) :
  Calls Tryz.prog 167 #[.pointer (some ⟨b,0,none⟩), .string s] w λ e w'=>e = .returned (.tuple #[.int .i64 s.size, .nilIface])/\Wr B b l s.data.toList w w':=by
 refine (writeString B b _ s w h (by simpa [Lib.byteCells_length] using hlen) kZ).mono ?_
 rintro e w' ⟨rfl,h1,h2,h3⟩
 refine⟨rfl,?_,h2,h3⟩
 have:Lib.byteCells l++Lib.strCells s=Lib.byteCells (l++s.data.toList):=by simp[Lib.byteCells,Lib.strCells]
 rw[wQ,<-this];exact h1
abbrev HO(B b:Nat)(v:Value)(l t:List UInt8)(w:World):Prop :=
 Calls Tryz.prog 156 #[.pointer (some ⟨b,0,none⟩),v] w λ e w'=>e = .returned (.tuple #[])/\Wr B b l t w w'
set_option maxRecDepth 100000 in
theorem Oc(i:Nat)(hi:i<100)(w:World) :
  Calls Tryz.prog 173 #[.int .i64 i, .int .i64 10] w λ e w'=>e = .returned (.string ⟨(Lib.decDigits i).toArray⟩)/\w'=w:=by
 go_enter Tryz.func173,Tryz.ntmps173
 go_wp2_with (go_at_call 175;refine (Tryz.internal_strconv_FormatInt_10_small i hi _).mono ?_)
 rintro e w1 ⟨he,hw⟩;subst he hw
 go_wp2
 go_ret
 exact⟨rfl,rfl⟩
set_option maxRecDepth 100000 in
theorem FW(i:Nat)(hi:i<100)(w:World) :
  Calls Tryz.prog 168 #[.int .i64 i] w λ e w'=>e = .returned (.string ⟨(Lib.decDigits i).toArray⟩)/\w'=w:=by
 go_enter Tryz.func168,Tryz.ntmps168
 go_wp2_with (go_at_call 173;refine (Oc i hi _).mono ?_)
 rintro e w1 ⟨he,hw⟩;subst he hw
 go_wp2
 go_ret
 exact⟨rfl,rfl⟩
set_option maxRecDepth 100000 in
theorem we1(B b:Nat)(l:List UInt8)(n:Int)(sl:Value)(w:World)(h:wQ B b l w)(hlen:l.length+1<=140737488355328)(kZ:B<=w.heap.size) :
  HO B b (.agg #[.int .i64 1, .int .i64 n,sl]) l [48] w:=by
 go_enter Tryz.func156,Tryz.ntmps156
 go_wp2_with (go_at_call 167;refine (ws B b l _ _ (o4 h _) (by exact hlen) (rU kZ _)).mono ?_)
 intro e w1 he h1;subst he
 go_wp2
 go_end0
 exact⟨rfl,h1.alloc kZ⟩
set_option maxRecDepth 100000 in
theorem we2(B b:Nat)(l:List UInt8)(n:Int)(sl:Value)(w:World)(h:wQ B b l w)(hlen:l.length+1<=140737488355328)(kZ:B<=w.heap.size) :
  HO B b (.agg #[.int .i64 2, .int .i64 n,sl]) l [49] w:=by
 go_enter Tryz.func156,Tryz.ntmps156
 go_wp2_with (go_at_call 167;refine (ws B b l _ _ (o4 h _) (by exact hlen) (rU kZ _)).mono ?_)
 intro e w1 he h1;subst he
 go_wp2
 go_end0
 exact⟨rfl,h1.alloc kZ⟩
set_option maxRecDepth 100000 in
theorem we3(B b:Nat)(l:List UInt8)(i:Nat)(hi:i<100)(sl:Value)(w:World)(h:wQ B b l w)(hlen:l.length+((Lib.decDigits i).length+1)<=140737488355328)(kZ:B<=w.heap.size) :
  HO B b (.agg #[.int .i64 3, .int .i64 i,sl]) l (116::Lib.decDigits i) w:=by
 go_enter Tryz.func156,Tryz.ntmps156
 go_wp2_with (go_at_call 168;refine (FW i hi _).mono ?_)
 rintro e w1 ⟨he,hw⟩;subst he hw
 go_wp2_with (go_at_call 167;refine (ws B b l _ _ (o4 h _) (by simp;omega) (rU kZ _)).mono ?_)
 rintro e w1 ⟨he,h1⟩;subst he
 go_wp2
 go_end0
 exact⟨rfl,by simpa using h1.alloc kZ⟩
set_option maxRecDepth 100000 in
theorem we4(B b:Nat)(l:List UInt8)(i:Nat)(hi:i<100)(sl:Value)(w:World)(h:wQ B b l w)(hlen:l.length+((Lib.decDigits i).length+1)<=140737488355328)(kZ:B<=w.heap.size) :
  HO B b (.agg #[.int .i64 4, .int .i64 i,sl]) l (97::Lib.decDigits i) w:=by
 go_enter Tryz.func156,Tryz.ntmps156
 go_wp2_with (go_at_call 168;refine (FW i hi _).mono ?_)
 rintro e w1 ⟨he,hw⟩;subst he hw
 go_wp2_with (go_at_call 167;refine (ws B b l _ _ (o4 h _) (by simp;omega) (rU kZ _)).mono ?_)
 rintro e w1 ⟨he,h1⟩;subst he
 go_wp2
 go_end0
 exact⟨rfl,by simpa using h1.alloc kZ⟩
set_option maxRecDepth 100000 in
theorem we5(B b:Nat)(l t:List UInt8)(n:Int)(kb ko cap:Nat)(c0 c1 c2:Value)(w:World)(h:wQ B b l w)(hlen:l.length+(t.length+1)<=140737488355328)(kZ:B<=w.heap.size)
  (u9:∀ w1,Below B w w1->∀ j v,[c0,c1,c2][j]?=some v->w1.cell? ⟨kb,ko+0+j,none⟩=some v)
  (Zo:∀ w1 l1,Below B w w1->wQ B b l1 w1->B<=w1.heap.size->l1.length+t.length<=140737488355328->HO B b (.agg #[c0,c1,c2]) l1 t w1)
  : HO B b (.agg #[.int .i64 5, .int .i64 n, .slice (some ⟨kb,ko,none⟩) 1 cap]) l (126::t) w:=by
 go_enter Tryz.func156,Tryz.ntmps156
 go_wp2_with (go_at_call 167;refine (ws B b l _ _ (o4 h _) (by simp;omega) (rU kZ _)).mono ?_)
 intro e w1 he h1;subst he
 have c2':=BZ h1.aU (MD h) 2 rfl
 have q00:w1.cell? ⟨kb,ko,none⟩=some c0:=by simpa [Nat.add_assoc] using u9 w1 (h1.alloc kZ).p9 0 _ rfl
 have q01:w1.cell? ⟨kb,ko+1,none⟩=some c1:=by simpa [Nat.add_assoc] using u9 w1 (h1.alloc kZ).p9 1 _ rfl
 have q02:w1.cell? ⟨kb,ko+2,none⟩=some c2:=by simpa [Nat.add_assoc] using u9 w1 (h1.alloc kZ).p9 2 _ rfl
 go_wp2_with (go_at_call 156;refine (Zo w1 _ (h1.alloc kZ).p9 h1.Ot (by have:=(h1.alloc kZ).p9.size;omega) (by simp;omega)).mono ?_)
 rintro e w2 ⟨he,h2⟩;subst he
 go_wp2
 go_end0
 exact⟨rfl,((h1.alloc kZ).trans h2)⟩
set_option maxRecDepth 100000 in
theorem we8(B b:Nat)(l t:List UInt8)(n:Int)(kb ko cap:Nat)(c0 c1 c2:Value)(w:World)(h:wQ B b l w)(hlen:l.length+(t.length+1)<=140737488355328)(kZ:B<=w.heap.size)
  (u9:∀ w1,Below B w w1->∀ j v,[c0,c1,c2][j]?=some v->w1.cell? ⟨kb,ko+0+j,none⟩=some v)
  (Zo:∀ w1 l1,Below B w w1->wQ B b l1 w1->B<=w1.heap.size->l1.length+t.length<=140737488355328->HO B b (.agg #[c0,c1,c2]) l1 t w1)
  : HO B b (.agg #[.int .i64 8, .int .i64 n, .slice (some ⟨kb,ko,none⟩) 1 cap]) l (t++[42]) w:=by
 have Mt:Below B w (w.alloc (.cells #[.int .i64 8, .int .i64 n, .slice (some ⟨kb,ko,none⟩) 1 cap] 38)):=(b1S B w).alloc kZ _
 have q00:(w.alloc (.cells #[.int .i64 8, .int .i64 n, .slice (some ⟨kb,ko,none⟩) 1 cap] 38)).cell? ⟨kb,ko,none⟩=some c0:=by simpa [Nat.add_assoc] using u9 (w.alloc (.cells #[.int .i64 8, .int .i64 n, .slice (some ⟨kb,ko,none⟩) 1 cap] 38)) Mt 0 _ rfl
 have q01:(w.alloc (.cells #[.int .i64 8, .int .i64 n, .slice (some ⟨kb,ko,none⟩) 1 cap] 38)).cell? ⟨kb,ko+1,none⟩=some c1:=by simpa [Nat.add_assoc] using u9 (w.alloc (.cells #[.int .i64 8, .int .i64 n, .slice (some ⟨kb,ko,none⟩) 1 cap] 38)) Mt 1 _ rfl
 have q02:(w.alloc (.cells #[.int .i64 8, .int .i64 n, .slice (some ⟨kb,ko,none⟩) 1 cap] 38)).cell? ⟨kb,ko+2,none⟩=some c2:=by simpa [Nat.add_assoc] using u9 (w.alloc (.cells #[.int .i64 8, .int .i64 n, .slice (some ⟨kb,ko,none⟩) 1 cap] 38)) Mt 2 _ rfl
 go_enter Tryz.func156,Tryz.ntmps156
 go_wp2_with (go_at_call 156;refine (Zo _ _ Mt (o4 h _) (rU kZ _) (by omega)).mono ?_)
 rintro e w1 ⟨he,h1⟩;subst he
 go_wp2_with (go_at_call 167;refine (ws B b _ _ _ h1.Ot (by simp;omega) (by have:=(h1.alloc kZ).p9.size;omega)).mono ?_)
 intro e w2 he h2;subst he
 go_wp2
 go_end0
 exact⟨rfl,((h1.alloc kZ).trans h2)⟩
set_option maxRecDepth 100000 in
theorem we6(B b:Nat)(l t u:List UInt8)(n:Int)(kb ko cap:Nat)(c0 c1 c2 d0 d1 d2:Value)(w:World)(h:wQ B b l w)(hlen:l.length+(t.length+u.length+5)<=140737488355328)(kZ:B<=w.heap.size)
  (u9:∀ w1,Below B w w1->∀ j v,[c0,c1,c2][j]?=some v->w1.cell? ⟨kb,ko+0+j,none⟩=some v)
  (Zo:∀ w1 l1,Below B w w1->wQ B b l1 w1->B<=w1.heap.size->l1.length+t.length<=140737488355328->HO B b (.agg #[c0,c1,c2]) l1 t w1)
  (Ol:∀ w1,Below B w w1->∀ j v,[d0,d1,d2][j]?=some v->w1.cell? ⟨kb,ko+3+j,none⟩=some v)
  (ih1:∀ w1 l1,Below B w w1->wQ B b l1 w1->B<=w1.heap.size->l1.length+u.length<=140737488355328->HO B b (.agg #[d0,d1,d2]) l1 u w1)
  : HO B b (.agg #[.int .i64 6, .int .i64 n, .slice (some ⟨kb,ko,none⟩) 2 cap]) l ([40]++(t++([32,43,32]++(u++[41])))) w:=by
 go_enter Tryz.func156,Tryz.ntmps156
 go_wp2_with (go_at_call 167;refine (ws B b l _ _ (o4 h _) (by simp;omega) (rU kZ _)).mono ?_)
 intro e w1 he h1;subst he
 have e1:=BZ h1.aU (MD h) 2 rfl
 have q00:w1.cell? ⟨kb,ko,none⟩=some c0:=by simpa [Nat.add_assoc] using u9 w1 (h1.alloc kZ).p9 0 _ rfl
 have q01:w1.cell? ⟨kb,ko+1,none⟩=some c1:=by simpa [Nat.add_assoc] using u9 w1 (h1.alloc kZ).p9 1 _ rfl
 have q02:w1.cell? ⟨kb,ko+2,none⟩=some c2:=by simpa [Nat.add_assoc] using u9 w1 (h1.alloc kZ).p9 2 _ rfl
 have g1:=h1.alloc kZ
 have s1:B<=w1.heap.size:=by have:=g1.p9.size;omega
 go_wp2_with (go_at_call 156;refine (Zo w1 _ g1.p9 h1.Ot s1 (by simp;omega)).mono ?_)
 rintro e w2 ⟨he,h2⟩;subst he
 have s2:B<=w2.heap.size:=by have:=h2.p9.size;omega
 go_wp2_with (go_at_call 167;refine (ws B b _ _ _ h2.Ot (by simp;omega) s2).mono ?_)
 intro e w3 he h3;subst he
 have e3:=BZ (h1.aU.trans (h2.aU.trans h3.aU)) (MD h) 2 rfl
 have g3:=g1.p9.trans (h2.p9.trans h3.p9)
 have q10:w3.cell? ⟨kb,ko+3,none⟩=some d0:=by simpa [Nat.add_assoc] using Ol w3 g3 0 _ rfl
 have q11:w3.cell? ⟨kb,ko+4,none⟩=some d1:=by simpa [Nat.add_assoc] using Ol w3 g3 1 _ rfl
 have q12:w3.cell? ⟨kb,ko+5,none⟩=some d2:=by simpa [Nat.add_assoc] using Ol w3 g3 2 _ rfl
 have s3:B<=w3.heap.size:=by have:=h3.p9.size;omega
 go_wp2_with (go_at_call 156;refine (ih1 w3 _ g3 h3.Ot s3 (by simp;omega)).mono ?_)
 rintro e w4 ⟨he,h4⟩;subst he
 have s4:B<=w4.heap.size:=by have:=h4.p9.size;omega
 go_wp2_with (go_at_call 167;refine (ws B b _ _ _ h4.Ot (by simp;omega) s4).mono ?_)
 intro e w5 he h5;subst he
 go_wp2
 go_end0
 have j2:Wr B b (l++[40]) t w1 w2:=by simpa using h2
 have j3:Wr B b (l++[40]++t) [32,43,32] w2 w3:=by simpa using h3
 have j4:Wr B b (l++[40]++t++[32,43,32]) u w3 w4:=by simpa using h4
 have j5:Wr B b (l++[40]++t++[32,43,32]++u) [41] w4 w5:=by simpa using h5
 exact⟨rfl,g1.trans (j2.trans (j3.trans (j4.trans j5)))⟩
set_option maxRecDepth 100000 in
theorem we7(B b:Nat)(l t u:List UInt8)(n:Int)(kb ko cap:Nat)(c0 c1 c2 d0 d1 d2:Value)(w:World)(h:wQ B b l w)(hlen:l.length+(t.length+u.length+3)<=140737488355328)(kZ:B<=w.heap.size)
  (u9:∀ w1,Below B w w1->∀ j v,[c0,c1,c2][j]?=some v->w1.cell? ⟨kb,ko+0+j,none⟩=some v)
  (Zo:∀ w1 l1,Below B w w1->wQ B b l1 w1->B<=w1.heap.size->l1.length+t.length<=140737488355328->HO B b (.agg #[c0,c1,c2]) l1 t w1)
  (Ol:∀ w1,Below B w w1->∀ j v,[d0,d1,d2][j]?=some v->w1.cell? ⟨kb,ko+3+j,none⟩=some v)
  (ih1:∀ w1 l1,Below B w w1->wQ B b l1 w1->B<=w1.heap.size->l1.length+u.length<=140737488355328->HO B b (.agg #[d0,d1,d2]) l1 u w1)
  : HO B b (.agg #[.int .i64 7, .int .i64 n, .slice (some ⟨kb,ko,none⟩) 2 cap]) l ([40]++(t++([32]++(u++[41])))) w:=by
 go_enter Tryz.func156,Tryz.ntmps156
 go_wp2_with (go_at_call 167;refine (ws B b l _ _ (o4 h _) (by simp;omega) (rU kZ _)).mono ?_)
 intro e w1 he h1;subst he
 have e1:=BZ h1.aU (MD h) 2 rfl
 have q00:w1.cell? ⟨kb,ko,none⟩=some c0:=by simpa [Nat.add_assoc] using u9 w1 (h1.alloc kZ).p9 0 _ rfl
 have q01:w1.cell? ⟨kb,ko+1,none⟩=some c1:=by simpa [Nat.add_assoc] using u9 w1 (h1.alloc kZ).p9 1 _ rfl
 have q02:w1.cell? ⟨kb,ko+2,none⟩=some c2:=by simpa [Nat.add_assoc] using u9 w1 (h1.alloc kZ).p9 2 _ rfl
 have g1:=h1.alloc kZ
 have s1:B<=w1.heap.size:=by have:=g1.p9.size;omega
 go_wp2_with (go_at_call 156;refine (Zo w1 _ g1.p9 h1.Ot s1 (by simp;omega)).mono ?_)
 rintro e w2 ⟨he,h2⟩;subst he
 have s2:B<=w2.heap.size:=by have:=h2.p9.size;omega
 go_wp2_with (go_at_call 167;refine (ws B b _ _ _ h2.Ot (by simp;omega) s2).mono ?_)
 intro e w3 he h3;subst he
 have e3:=BZ (h1.aU.trans (h2.aU.trans h3.aU)) (MD h) 2 rfl
 have g3:=g1.p9.trans (h2.p9.trans h3.p9)
 have q10:w3.cell? ⟨kb,ko+3,none⟩=some d0:=by simpa [Nat.add_assoc] using Ol w3 g3 0 _ rfl
 have q11:w3.cell? ⟨kb,ko+4,none⟩=some d1:=by simpa [Nat.add_assoc] using Ol w3 g3 1 _ rfl
 have q12:w3.cell? ⟨kb,ko+5,none⟩=some d2:=by simpa [Nat.add_assoc] using Ol w3 g3 2 _ rfl
 have s3:B<=w3.heap.size:=by have:=h3.p9.size;omega
 go_wp2_with (go_at_call 156;refine (ih1 w3 _ g3 h3.Ot s3 (by simp;omega)).mono ?_)
 rintro e w4 ⟨he,h4⟩;subst he
 have s4:B<=w4.heap.size:=by have:=h4.p9.size;omega
 go_wp2_with (go_at_call 167;refine (ws B b _ _ _ h4.Ot (by simp;omega) s4).mono ?_)
 intro e w5 he h5;subst he
 go_wp2
 go_end0
 have j2:Wr B b (l++[40]) t w1 w2:=by simpa using h2
 have j3:Wr B b (l++[40]++t) [32] w2 w3:=by simpa using h3
 have j4:Wr B b (l++[40]++t++[32]) u w3 w4:=by simpa using h4
 have j5:Wr B b (l++[40]++t++[32]++u) [41] w4 w5:=by simpa using h5
 exact⟨rfl,g1.trans (j2.trans (j3.trans (j4.trans j5)))⟩
end Go.Proofs.YtmjfpcajohhbeaaGreatDoor

set_option maxRecDepth 4000
set_option maxHeartbeats 4000000
namespace Go.Proofs.YtmjfpcajohhbeaaGreatDoor
noncomputable section
open Go.RowKit Go.Proofs
def zc(n:Int):List UInt8:=Lib.decDigits n.toNat
def Uz(k n:Int)(p q:List UInt8):List UInt8:=if k=1 then [48] else if k=2 then [49] else if k=3 then 116::zc n else if k=4 then 97::zc n else if k=5 then 126::p
 else if k=6 then [40]++(p++([32,43,32]++(q++[41]))) else if k=7 then [40]++(p++([32]++(q++[41]))) else p++[42]
mutual
def bV:J->List UInt8
 | ⟨k,n,ks⟩=>Uz k n ((Qs ks).getD 0 []) ((Qs ks).getD 1 [])
def Qs:List J->List (List UInt8)
 | []=>[]
 | k::ks=>bV k::Qs ks
end
theorem rK(z:J):∀ (xs:List J) (i:Nat),i<xs.length->(Qs xs).getD i []=bV (xs.getD i z)
 | [],i,h=>by simp at h
 | x::xs,0,h=>by simp[Qs]
 | x::xs,i+1,h=>by
  have:=rK z xs i (by simpa using h)
  simpa [Qs] using this
theorem a4l(x:J):bV x=Uz x.ak x.aI ((Qs x.M).getD 0 []) ((Qs x.M).getD 1 []):=by
 cases x;rfl
def dT(x:J):Bool:=aZ 9 9 x
def zO(x:J)(i:Nat):Prop:=dT (x.M.getD i zE)=true/\cz (x.M.getD i zE)<cz x
theorem xL(x:J)(h:dT x=true)(i:Nat)(hi:i<x.M.length):zO x i:=by
 unfold zO
 simp only[dT] at h ⊢
 rw[kB] at h
 simp only[a8r] at h
 refine⟨UJ _ _ _ _ hi h.2,?_⟩
 have:=cq (zE:J) x.M i hi
 have:=dV x
 omega
theorem iK(x:J)(h:dT x=true):((x.ak=3\/x.ak=4)->0<=x.aI/\x.aI<=9) /\
  ((x.ak=5\/x.ak=8)->x.M.length=1/\zO x 0)/\((x.ak=6\/x.ak=7)->x.M.length=2/\zO x 0/\zO x 1) /\
  (x.ak=1\/x.ak=2\/x.ak=3\/x.ak=4\/x.ak=5\/x.ak=6\/x.ak=7\/x.ak=8):=by
 have hk:=xL x h
 simp only[dT] at h
 rw[kB,xl] at h
 simp only[a8r,a8p] at h
 obtain⟨⟨⟨h1,h2⟩,_⟩,_⟩:=h
 refine⟨λ e=>?_,λ e=>?_,λ e=>?_,?_⟩
 .rcases e with e|e<;>simpa [GM,e] using h2
 .have h1':x.M.length=1:=by
   rcases e with e|e<;>rw[e] at h1<;>simp[cN] at h1<;>omega
  exact⟨h1',hk 0 (by omega)⟩
 .have h1':x.M.length=2:=by
   rcases e with e|e<;>rw[e] at h1<;>simp[cN] at h1<;>omega
  exact⟨h1',hk 0 (by omega),hk 1 (by omega)⟩
 .unfold cN at h1
  split at h1
  .omega
  .split at h1
   .omega
   .split at h1<;>omega
theorem e9(x:J)(h:dT x=true):(x.ak=1->bV x=[48])/\(x.ak=2->bV x=[49])/\(x.ak=3->bV x=116::zc x.aI)/\(x.ak=4->bV x=97::zc x.aI) /\
  (x.ak=5->bV x=126::bV (x.M.getD 0 zE)) /\
  (x.ak=6->bV x=[40]++(bV (x.M.getD 0 zE)++([32,43,32]++(bV (x.M.getD 1 zE)++[41])))) /\
  (x.ak=7->bV x=[40]++(bV (x.M.getD 0 zE)++([32]++(bV (x.M.getD 1 zE)++[41])))) /\
  (x.ak=8->bV x=bV (x.M.getD 0 zE)++[42]):=by
 have hf:=iK x h
 rw[a4l]
 refine⟨λ e=>?_,λ e=>?_,λ e=>?_,λ e=>?_,λ e=>?_,λ e=>?_,λ e=>?_,λ e=>?_⟩
 .simp[Uz,e]
 .simp[Uz,e]
 .simp[Uz,e]
 .simp[Uz,e]
 .have:=(hf.2.1 (.inl e)).1
  rw[rK zE x.M 0 (by omega)];simp[Uz,e]
 .have:=(hf.2.2.1 (.inl e)).1
  rw[rK zE x.M 0 (by omega),rK zE x.M 1 (by omega)];simp[Uz,e]
 .have:=(hf.2.2.1 (.inr e)).1
  rw[rK zE x.M 0 (by omega),rK zE x.M 1 (by omega)];simp[Uz,e]
 .have:=(hf.2.1 (.inr e)).1
  rw[rK zE x.M 0 (by omega)];simp[Uz,e]
theorem Xm(n:Int)(h:0<=n/\n<=9):(zc n).length=1:=by
 unfold zc
 rw[Lib.decDigits_one (by omega)];rfl
theorem a4X(f:J->Nat)(z:J)(xs:List J)(h:xs.length=2):bF f xs=f (xs.getD 0 z)+f (xs.getD 1 z):=by
 match xs,h with
 | [a,b],_=>simp[bF]
theorem a4W(f:J->Nat)(z:J)(xs:List J)(h:xs.length=1):bF f xs=f (xs.getD 0 z):=by
 match xs,h with
 | [a],_=>simp[bF]
theorem yS:∀ (N:Nat) (x:J),cz x<N->dT x=true->(bV x).length<=5 * aF x
 | 0,x,h,_=>by omega
 | N+1,x,hN,h=>by
  have hf:=iK x h
  have ht:=e9 x h
  have hn:=yD x
  rcases hf.2.2.2 with e|e|e|e|e|e|e|e
  .rw[ht.1 e];simp;omega
  .rw[ht.2.1 e];simp;omega
  .rw[ht.2.2.1 e];have:=Xm _ (hf.1 (.inl e));simp;omega
  .rw[ht.2.2.2.1 e];have:=Xm _ (hf.1 (.inr e));simp;omega
  .rw[ht.2.2.2.2.1 e]
   obtain⟨hl,h0⟩:=hf.2.1 (.inl e)
   have i0:=yS N _ (by have:=h0.2;omega) h0.1
   rw[a4W _ zE _ hl] at hn
   simp only[a8C];omega
  .rw[ht.2.2.2.2.2.1 e]
   obtain⟨hl,h0,h1⟩:=hf.2.2.1 (.inl e)
   have i0:=yS N _ (by have:=h0.2;omega) h0.1
   have i1:=yS N _ (by have:=h1.2;omega) h1.1
   rw[a4X _ zE _ hl] at hn
   simp only[a8K,a8C,a8N];omega
  .rw[ht.2.2.2.2.2.2.1 e]
   obtain⟨hl,h0,h1⟩:=hf.2.2.1 (.inr e)
   have i0:=yS N _ (by have:=h0.2;omega) h0.1
   have i1:=yS N _ (by have:=h1.2;omega) h1.1
   rw[a4X _ zE _ hl] at hn
   simp only[a8K,a8C,a8N];omega
  .rw[ht.2.2.2.2.2.2.2 e]
   obtain⟨hl,h0⟩:=hf.2.1 (.inr e)
   have i0:=yS N _ (by have:=h0.2;omega) h0.1
   rw[a4W _ zE _ hl] at hn
   simp only[a8K,a8C,a8N];omega
theorem Yd{w:World}{S:Nat->Prop}{x:J}{cs:List Value}(h:Rd w S x.aR cs):∃ a cap,cs=[.int .i64 x.ak, .int .i64 x.aI, .slice a x.M.length cap] /\
  (x.M=[]\/∃ b o,a=some ⟨b,o,none⟩/\S b/\dL w S (x.M.map J.aR) b o):=by
 cases x with
 | mk k n ks =>
  simp only[J.aR,Rd,dB] at h
  obtain⟨v0,r0,rfl,⟨h0,_⟩,v1,r1,rfl,⟨h1,_⟩,v2,r2,rfl,⟨a,cap,h2,_,_,_,h3⟩,rfl⟩:=h
  simp only[a8z,a8F] at h0 h1 h2
  subst h0 h1 h2
  rw[J.vE] at *
  refine⟨a,cap,by simp,h3.imp (λ h=>by simpa using h) id⟩
theorem a4d{w:World}{S:Nat->Prop}{x:J}{b o:Nat}(h:dL w S (x.M.map J.aR) b o)(i:Nat)(hi:i<x.M.length) :
  ∃ c0 c1 c2,Rd w S (x.M.getD i zE).aR [c0,c1,c2]/\ct w b (o+3 * i) [c0,c1,c2]:=by
 obtain⟨cs,h1,h2,h3⟩:=dL.at_ (n:=3) _ b o h (λ d hd=>by
  obtain⟨y,_,rfl⟩:=a8A.1 hd
  cases y;rfl) i (x.M.getD i zE).aR (by simp[a9W,a8H,a8P hi])
 match cs,h1 with
 | [c0,c1,c2],_=>exact⟨c0,c1,c2,h2,by rw[Nat.mul_comm];exact h3⟩
theorem Jy(B b:Nat)(S:Nat->Prop)(hS:∀ k,S k->k<B):∀ (N:Nat) (x:J),cz x<N->dT x=true->∀ (l:List UInt8) (w:World) (cs:List Value),wQ B b l w->B<=w.heap.size ->
  l.length+(bV x).length<=140737488355328->Rd w S x.aR cs->HO B b (.agg cs.toArray) l (bV x) w
 | 0,x,h,_=>by omega
 | N+1,x,hN,h=>by
  intro l w cs hI hB hl hr
  have hf:=iK x h
  have ht:=e9 x h
  obtain⟨a,cap,rfl,hk⟩:=Yd hr
  have Iz:∀ i,i<x.M.length->zO x i->∃ kb ko c0 c1 c2,a=some ⟨kb,ko,none⟩/\(∀ j,j≠i->True)/\(∀ w1,Below B w w1->∀ j v,[c0,c1,c2][j]?=some v->w1.cell? ⟨kb,ko+3 * i+j,none⟩=some v) /\
    (∀ w1 l1,Below B w w1->wQ B b l1 w1->B<=w1.heap.size->l1.length+(bV (x.M.getD i zE)).length<=140737488355328->HO B b (.agg #[c0,c1,c2]) l1 (bV (x.M.getD i zE)) w1):=by
   intro i hi hg
   rcases hk with hk|⟨kb,ko,rfl,hSk,fD⟩
   .rw[hk] at hi;simp at hi
   .obtain⟨c0,c1,c2,h1,h2⟩:=a4d fD i hi
    refine⟨kb,ko,c0,c1,c2,rfl,λ _ _=>trivial,λ w1 hw j v hj=>?_,λ w1 l1 hw hI1 hB1 hl1=>?_⟩
    .exact h2.aU (hw.block kb (hS kb hSk)) j v hj
    .exact Jy B b S hS N _ (by have:=hg.2;omega) hg.1 l1 w1 [c0,c1,c2] hI1 hB1 hl1 (h1.aU (λ _ h=>h) (λ k hk=>hw.block k (hS k hk)))
  rcases hf.2.2.2 with e|e|e|e|e|e|e|e
  .rw[ht.1 e] at hl ⊢;rw[e];exact we1 B b l _ _ w hI hl hB
  .rw[ht.2.1 e] at hl ⊢;rw[e];exact we2 B b l _ _ w hI hl hB
  .have hn:=hf.1 (.inl e)
   rw[ht.2.2.1 e] at hl ⊢;rw[e,show x.aI=((x.aI.toNat:Nat):Int) by omega];exact we3 B b l _ (by omega) _ w hI (by simpa [zc] using hl) hB
  .have hn:=hf.1 (.inr e)
   rw[ht.2.2.2.1 e] at hl ⊢;rw[e,show x.aI=((x.aI.toNat:Nat):Int) by omega];exact we4 B b l _ (by omega) _ w hI (by simpa [zc] using hl) hB
  .obtain⟨hn,h0⟩:=hf.2.1 (.inl e)
   obtain⟨kb,ko,c0,c1,c2,rfl,_,q1,q2⟩:=Iz 0 (by omega) h0
   rw[ht.2.2.2.2.1 e] at hl ⊢;rw[e,hn];exact we5 B b l _ _ kb ko cap c0 c1 c2 w hI (by simpa using hl) hB q1 q2
  .obtain⟨hn,h0,h1⟩:=hf.2.2.1 (.inl e)
   obtain⟨kb,ko,c0,c1,c2,rfl,_,q1,q2⟩:=Iz 0 (by omega) h0
   obtain⟨kb',ko',d0,d1,d2,eq,_,p1,p2⟩:=Iz 1 (by omega) h1
   cases eq
   rw[ht.2.2.2.2.2.1 e] at hl ⊢;rw[e,hn];exact we6 B b l _ _ _ kb ko cap c0 c1 c2 d0 d1 d2 w hI (by simp at hl ⊢;omega) hB q1 q2 p1 p2
  .obtain⟨hn,h0,h1⟩:=hf.2.2.1 (.inr e)
   obtain⟨kb,ko,c0,c1,c2,rfl,_,q1,q2⟩:=Iz 0 (by omega) h0
   obtain⟨kb',ko',d0,d1,d2,eq,_,p1,p2⟩:=Iz 1 (by omega) h1
   cases eq
   rw[ht.2.2.2.2.2.2.1 e] at hl ⊢;rw[e,hn];exact we7 B b l _ _ _ kb ko cap c0 c1 c2 d0 d1 d2 w hI (by simp at hl ⊢;omega) hB q1 q2 p1 p2
  .obtain⟨hn,h0⟩:=hf.2.1 (.inr e)
   obtain⟨kb,ko,c0,c1,c2,rfl,_,q1,q2⟩:=Iz 0 (by omega) h0
   rw[ht.2.2.2.2.2.2.2 e] at hl ⊢;rw[e,hn];exact we8 B b l _ _ kb ko cap c0 c1 c2 w hI (by simpa using hl) hB q1 q2
def sT:aJ:=⟨GH,[.v (.st .expr)],λ (x:J)=>⟨(some (dT x=true/\(bV x).length<=1000000),[⟨.str,bV x⟩])⟩⟩
set_option maxRecDepth 100000 in
theorem WU(x:J)(w:World)(S:Nat->Prop)(hS:∀ b,S b->b<w.heap.size)(hg:dT x=true)(hl:(bV x).length<=1000000)(cs:List Value)(hr:Rd w S x.aR cs) :
  Calls Tryz.prog 150 #[.agg cs.toArray] w λ e w'=>e = .returned (.string ⟨(bV x).toArray⟩)/\Below w.heap.size w w':=by
 obtain⟨a,cap,rfl,hk⟩:=Yd hr
 have hI:∀ o:Obj,wQ (w.heap.size+1) (w.heap.size+1) [] ((w.alloc o).alloc (.cells #[.pointer none, .slice none 0 0] 196)):=λ o=>by
  have:=Lib.fresh_isBuilder 196 5 (w.alloc o)
  rw[show (w.alloc o).heap.size=w.heap.size+1 by simp] at this
  exact this
 have hB:∀ o p:Obj,w.heap.size+1<=((w.alloc o).alloc p).heap.size:=λ o p=>by simp
 have hw:∀ o p:Obj,Below w.heap.size w ((w.alloc o).alloc p):=λ o p=>((b1S _ w).alloc (a9i _) o).alloc (by simp) p
 go_enter Tryz.func150,Tryz.ntmps150
 go_wp2_with (go_at_call 156;refine (Jy (w.heap.size+1) (w.heap.size+1) S (λ k hk=>Nat.lt_succ_of_lt (hS k hk)) (cz x+1) x (a9h _) hg [] _ _ (hI _) (hB _ _) (by simp;omega) (hr.aU (λ _ h=>h) (λ k hk=>(hw _ _).block k (hS k hk)))).mono ?_)
 rintro e w1 ⟨he,h1⟩;subst he
 have b1:Below w.heap.size w w1:=(hw _ _).trans (h1.p9.mono (b2d _))
 have g1:wQ (w.heap.size+1) (w.heap.size+1) (bV x) w1:=by simpa using h1.Ot
 have z1:w.heap.size+1<=w1.heap.size:=b0N (hB _ _) h1.p9.size
 clear h1
 go_wp2_with (go_at_call 157;refine (Tryz.Builder_String_any (w.heap.size+1) (w.heap.size+1) (bV x) w1 g1 z1).mono ?_)
 rintro e w2 ⟨he,h2⟩;subst he
 go_wp2
 go_ret
 exact⟨rfl,b1.trans (h2.mono (b2d _))⟩
theorem VV{w w':World}(h:Below w.heap.size w w'):bN (λ _=>False) w w':=⟨h.os,h.tape,h.output,h.size,λ b hb _=>h.block b hb⟩
theorem a4e{w:World}{S:Nat->Prop}(l:List UInt8)(h:l.length<=140737488355328):fA w S ⟨.str,l⟩ (.string ⟨l.toArray⟩) :=
 ⟨⟨l.toArray⟩,rfl,by simp,by simpa [ByteArray.size] using h⟩
theorem Mf:aJ.Good sT:=by
 refine⟨aA Qu rfl (by decide),?_⟩
 intro x hp w S cS ⟨hS,_⟩ ha
 match cS,ha with
 | [v],ha =>
  obtain⟨⟨cs,rfl,hr⟩,_⟩:=ha
  refine (WU x w S hS hp.1 hp.2 cs hr).mono ?_
  rintro e w' ⟨rfl,hb⟩
  exact⟨_,S,_,rfl,rfl,VV hb,λ _ _=>b0w,λ b h=>a8G (hS b h) hb.size,a4e (w:=w') (S:=S) _ (by have:=hp.2;omega)⟩
def tk(x:J)(i:Nat):J:=x.M.getD i zE
structure TK(x:J)(i:Nat):Prop where
 a8k:dT (x.M.getD i zE)=true
 less:cz (x.M.getD i zE)<cz x
 len:(bV (x.M.getD i zE)).length<=(bV x).length
end
end Go.Proofs.YtmjfpcajohhbeaaGreatDoor

namespace Go.Proofs.YtmjfpcajohhbeaaGreatDoor
noncomputable section
theorem a1d(s:List UInt8)(h:kU 9 s=true)(h9:hJ s<=9):kU 1 s=true:=by
 rw[CI] at h ⊢
 simp only[a8r,a8p,a8J,b0Z,a8q] at h ⊢
 obtain⟨⟨⟨h1,h2⟩,h3⟩,h4⟩:=h
 refine⟨⟨⟨h1,?_⟩,h3⟩,h4⟩
 rcases a9t 1 s.length with hl|hl
 .exfalso
  match s,hl,h3,h4,h9 with
  | a::b::r,_,h3,h4,h9 =>
   have ha:gH a=true:=by simp[bq] at h4;exact h4.1
   have ha':=ha
   simp only[gH,a8r,a8p] at ha
   have h3':a.toNat≠48:=by rcases h3 with h3|h3<;>simp at h3<;>omega
   have key:∀ (r:List UInt8) (n:Int),1<=n->bq gH r=true->n<=r.foldl (λ n b=>n * 10+((b.toNat:Int) - 48)) n:=by
    intro r
    induction r with
    | nil=>intro n _ _;exact Int.le_refl _
    | cons c r ih =>
     intro n hn hr
     simp only[bq,a8r] at hr
     have hc:=hr.1
     simp only[gH,a8r,a8p] at hc
     have:=ih (n * 10+((c.toNat:Int) - 48)) (by omega) hr.2
     simp only[b1m];omega
   simp only[bq,a8r] at h4
   have hb:=h4.2.1
   simp only[gH,a8r,a8p] at hb
   have:=key r (((0 * 10+((a.toNat:Int) - 48)) * 10)+((b.toNat:Int) - 48)) (by omega) h4.2.2
   simp only[hJ,b1m] at h9
   omega
 .omega
theorem xj{α:Type}(f:α->Bool):∀ (xs:List α),bq f xs=true->∀ x∈xs,f x=true
 | x::xs,h,y,hy=>by
  simp only[bq,a8r] at h
  rcases a8I.1 hy with e|e
  .rw[e];exact h.1
  .exact xj f xs h.2 y e
end
end Go.Proofs.YtmjfpcajohhbeaaGreatDoor

namespace Go.Proofs.YtmjfpcajohhbeaaGreatDoor
noncomputable section
abbrev zX:J:=J.mk (0:Int) (0:Int) []
def cK(t:List UInt8)(a:Nat)(s:List UInt8):Bool:=decide (s.length<=(t.drop a).length)&&decide ((t.drop a).take s.length=s)
theorem pw{t:List UInt8}{a:Nat}{s r:List UInt8}(h:t.drop a=s++r):cK t a s=true:=by
 unfold cK;rw[h];simp
theorem Nr(t:List UInt8)(a:Nat)(s:List UInt8):cK t a s=true↔∃ r,t.drop a=s++r:=by
 constructor
 .intro h
  simp only[cK,a8r,a8p] at h
  refine⟨(t.drop a).drop s.length,?_⟩
  conv=>rhs;lhs;rw[<-h.2]
  rw[a9K]
 .rintro⟨r,h⟩;exact pw h
theorem oR{t:List UInt8}{a:Nat}{b c:UInt8}{r:List UInt8}(h:t.drop a=b::r)(hn:b≠c)(s:List UInt8):cK t a (c::s)=false:=by
 cases e:cK t a (c::s) with
 | false=>rfl
 | true =>
  obtain⟨r',h'⟩:=(Nr _ _ _).1 e
  rw[h] at h'
  simp only[a9y,a8z] at h'
  exact absurd h'.1 hn
def jA(c:UInt8):List UInt8->Nat
 | []=>0
 | b::l=>if b=c then jA c l+1 else 0
def noB(c:UInt8)(r:List UInt8):Prop:=∀ b l,r=b::l->b≠c
theorem LZ(c:UInt8)(r:List UInt8)(h:noB c r):∀ n,jA c (List.replicate n c++r)=n
 | 0=>by
  cases r with
  | nil=>rfl
  | cons b l=>simp[jA,h b l rfl]
 | n+1=>by simp[b0o,jA,LZ c r h n]
theorem cu{t w r:List UInt8}{a:Nat}(h:t.drop a=w++r):t.drop (a+w.length)=r:=by
 rw[<-a9Y,h];simp
structure RI where
 e:J
 ok:Bool
 a:Nat
def aX(k:Int):Nat->J->J
 | 0,e=>e
 | n+1,e=>aX k n (J.mk k 0 [e])
theorem eh(k:Int):∀ (n:Nat) (e:J),aX k (n+1) e=J.mk k 0 [aX k n e]
 | 0,e=>rfl
 | n+1,e=>by
  show aX k (n+1) (J.mk k 0 [e])=_
  rw[eh k n (J.mk k 0 [e])];rfl
def lD(core:Nat->RI)(t:List UInt8)(a:Nat):RI :=
 if 40<jA 126 (t.drop a) then ⟨zX,false,a+jA 126 (t.drop a)⟩ else
 if 41<jA 42 (t.drop (core (a+jA 126 (t.drop a))).a) then ⟨zX,false,(core (a+jA 126 (t.drop a))).a+42⟩ else
 ⟨aX 8 (jA 42 (t.drop (core (a+jA 126 (t.drop a))).a)) (aX 5 (jA 126 (t.drop a)) (core (a+jA 126 (t.drop a))).e),(core (a+jA 126 (t.drop a))).ok,(core (a+jA 126 (t.drop a))).a+jA 42 (t.drop (core (a+jA 126 (t.drop a))).a)⟩
def jP(t:List UInt8)(a:Nat):Bool:=decide (a<t.length)&&decide (48<=(t.getD a 0).toNat)&&decide ((t.getD a 0).toNat<=57)
def tU(k:Int)(t:List UInt8)(a:Nat):RI:=bif jP t a then ⟨J.mk k (((t.getD a 0).toNat:Int) - 48) [],true,a+1⟩ else ⟨J.mk k 0 [],false,a⟩
def tl(k:Int)(t:List UInt8)(x y:RI):RI:=bif x.ok&&y.ok&&cK t y.a [41] then ⟨J.mk k 0 [x.e,y.e],true,y.a+1⟩ else ⟨J.mk k 0 [x.e,y.e],false,y.a⟩
def dM(t:List UInt8):Nat->Nat->RI
 | 0,a=>⟨zX,false,a⟩
 | d+1,a=>if cK t a [48]=true then ⟨J.mk 1 0 [],true,a+1⟩ else if cK t a [49]=true then ⟨J.mk 2 0 [],true,a+1⟩ else
  if cK t a [116]=true then tU 3 t (a+1) else if cK t a [97]=true then tU 4 t (a+1) else if cK t a [40]=false then ⟨zX,false,a⟩ else
  if cK t (lD (dM t d) t (a+1)).a [32,43,32]=true then tl 6 t (lD (dM t d) t (a+1)) (lD (dM t d) t ((lD (dM t d) t (a+1)).a+3)) else
  if cK t (lD (dM t d) t (a+1)).a [32]=true then tl 7 t (lD (dM t d) t (a+1)) (lD (dM t d) t ((lD (dM t d) t (a+1)).a+1)) else
  ⟨zX,false,(lD (dM t d) t (a+1)).a⟩
def N7(k:Int):Prop:=k=1\/k=2\/k=3\/k=4\/k=6\/k=7
theorem oi(x:J)(h:dT x=true)(e:¬ x.ak=3)(e':¬ x.ak=4):x.aI=0:=by
 simp only[dT] at h
 rw[kB,xl] at h
 simp only[a8r,a8p] at h
 have:=h.1.1.2
 rw[GM,a8y e,a8y e'] at this
 simpa using this
theorem rl(x:J)(h:dT x=true)(e:x.ak=1\/x.ak=2\/x.ak=3\/x.ak=4):x.M=[]:=by
 simp only[dT] at h
 rw[kB,xl] at h
 simp only[a8r,a8p] at h
 have h1:=h.1.1.1
 have:x.M.length=0:=by rcases e with e|e|e|e<;>rw[e] at h1<;>simp[cN] at h1<;>omega
 exact a9E this
theorem a0U(x:J)(h:dT x=true)(e:x.ak=5):bj (x.M.getD 0 zE)=true:=by
 simp only[dT] at h
 rw[kB,xl] at h
 simp only[a8r,a8p] at h
 have:=h.1.2
 simpa [e] using this
theorem M7(x:J)(h:x.M.length=1):x.M=[x.M.getD 0 zE]:=by
 cases x with
 | mk k n ks =>
  match ks,h with
  | [a],_=>rfl
theorem HM(x:J)(h:x.M.length=2):x.M=[x.M.getD 0 zE,x.M.getD 1 zE]:=by
 cases x with
 | mk k n ks =>
  match ks,h with
  | [a,b],_=>rfl
theorem iX(x:J)(k n:Int)(ks:List J)(h1:x.ak=k)(h2:x.aI=n)(h3:x.M=ks):x=J.mk k n ks:=by
 cases x;simp at h1 h2 h3;simp[h1,h2,h3]
theorem TB:∀ (N:Nat) (x:J),cz x<N->dT x=true->∃ m n c,x=aX 8 m (aX 5 n c)/\dT c=true/\N7 c.ak/\cz c<=cz x/\bJ c+m+n=bJ x /\
  bV x=List.replicate n 126++(bV c++List.replicate m 42)
 | 0,x,h,_=>by omega
 | N+1,x,hN,h=>by
  have hf:=iK x h
  have ht:=e9 x h
  by_cases h8:x.ak=8
  .obtain⟨hl,hk⟩:=hf.2.1 (.inr h8)
   obtain⟨m,n,c,e1,e2,e3,e4,e5,e6⟩:=TB N _ (by have:=hk.2;omega) hk.1
   have hx:x=J.mk 8 0 [x.M.getD 0 zE]:=iX x 8 0 _ h8 (oi x h (by omega) (by omega)) (M7 x hl)
   refine⟨m+1,n,c,?_,e2,e3,by have:=hk.2;omega,?_,?_⟩
   .rw[eh,<-e1];exact hx
   .rw[jB x,M7 x hl];simp only[iR];omega
   .rw[ht.2.2.2.2.2.2.2 h8,e6,b1d];simp
  .by_cases h5:x.ak=5
   .obtain⟨hl,hk⟩:=hf.2.1 (.inl h5)
    obtain⟨m,n,c,e1,e2,e3,e4,e5,e6⟩:=TB N _ (by have:=hk.2;omega) hk.1
    have hx:x=J.mk 5 0 [x.M.getD 0 zE]:=iX x 5 0 _ h5 (oi x h (by omega) (by omega)) (M7 x hl)
    have hm:m=0:=by
     cases m with
     | zero=>rfl
     | succ m =>
      have hc:=a0U x h h5
      rw[e1,eh,N4] at hc
      simp[J6] at hc
    subst hm
    refine⟨0,n+1,c,?_,e2,e3,by have:=hk.2;omega,?_,?_⟩
    .show x=aX 5 (n+1) c
     rw[eh]
     have e1':x.M.getD 0 zE=aX 5 n c:=e1
     rw[<-e1'];exact hx
    .rw[jB x,M7 x hl];simp only[iR];omega
    .rw[ht.2.2.2.2.1 h5,e6,b0o];simp
   .exact⟨0,0,x,rfl,h,by have:=hf.2.2.2;unfold N7;omega,Nat.le_refl _,by omega,by simp⟩
theorem J7{t:List UInt8}{a:Nat}{b:UInt8}{r:List UInt8}(h:t.drop a=b::r):a<t.length/\t.getD a 0=b:=by
 have hl:a<t.length:=by
  rcases a9t a t.length with g|g
  .exact g
  .rw[b0F g] at h;cases h
 refine⟨hl,?_⟩
 rw[b0h hl] at h
 simp only[a8z] at h
 rw[a8H,a8P hl,<-h.1];rfl
theorem P4(c:J)(h:dT c=true)(hk:N7 c.ak):∃ b l,bV c=b::l/\b≠126/\b≠43:=by
 have ht:=e9 c h
 rcases hk with e|e|e|e|e|e
 .exact⟨_,_,ht.1 e,by decide,by decide⟩
 .exact⟨_,_,ht.2.1 e,by decide,by decide⟩
 .exact⟨_,_,ht.2.2.1 e,by decide,by decide⟩
 .exact⟨_,_,ht.2.2.2.1 e,by decide,by decide⟩
 .exact⟨_,_,ht.2.2.2.2.2.1 e,by decide,by decide⟩
 .exact⟨_,_,ht.2.2.2.2.2.2.1 e,by decide,by decide⟩
theorem Sm(x:J)(h:dT x=true):∃ b l,bV x=b::l/\b≠43:=by
 obtain⟨m,n,c,_,h2,h3,_,_,h6⟩:=TB (cz x+1) x (a9h _) h
 obtain⟨b,l,g1,_,g3⟩:=P4 c h2 h3
 cases n with
 | zero=>exact⟨b,_,by rw[h6,g1];rfl,g3⟩
 | succ n=>exact⟨126,_,by rw[h6,b0o];rfl,by decide⟩
theorem UY(core:Nat->RI)(t:List UInt8)(a:Nat)(r:List UInt8)(x c:J)(m n:Nat)(hx:x=aX 8 m (aX 5 n c))(hc:dT c=true)(hk:N7 c.ak)
  (htx:bV x=List.replicate n 126++(bV c++List.replicate m 42)) (hm:m<=40) (hn:n<=40) (hr:noB 42 r) (hd:t.drop a=bV x++r)
  (a5v:∀ r',t.drop (a+n)=bV c++r'->core (a+n)=⟨c,true,a+n+(bV c).length⟩):lD core t a=⟨x,true,a+(bV x).length⟩:=by
 obtain⟨b,l,g1,g2,_⟩:=P4 c hc hk
 have Za:t.drop a=List.replicate n 126++(bV c++(List.replicate m 42++r)):=by rw[hd,htx];simp
 have hd2:t.drop (a+n)=bV c++(List.replicate m 42++r):=by
  have:=cu Za
  simpa using this
 have hd3:=cu hd2
 have Ze:jA 126 (t.drop a)=n:=by
  rw[Za]
  refine LZ 126 _ ?_ n
  intro b' l' e
  rw[g1] at e
  simp only[a9y,a8z] at e
  rw[<-e.1];exact g2
 have hm1:jA 42 (t.drop (a+n+(bV c).length))=m:=by rw[hd3];exact LZ 42 r hr m
 have Y9:=a5v _ hd2
 unfold lD
 rw[Ze,Y9]
 simp only[hm1]
 rw[a8y (by omega),a8y (by omega),<-hx]
 have:(bV x).length=n+((bV c).length+m):=by rw[htx];simp
 simp only[RI.mk.injEq,a9l]
 omega
theorem US:∀ (N:Nat) (c:J),cz c<N->dT c=true->N7 c.ak->∀ (t:List UInt8) (d a:Nat) (r:List UInt8),bJ c<=d->bJ c<=40->t.drop a=bV c++r->dM t d a=⟨c,true,a+(bV c).length⟩
 | 0,c,h,_,_=>by omega
 | N+1,c,hN,h,hk=>by
  intro t d a r hd h40 ht
  have hf:=iK c h
  have hx:=e9 c h
  have hdp:=jB c
  obtain⟨d,rfl⟩:∃ d',d=d'+1:=⟨d - 1,by omega⟩
  have Iz:∀ i,i<c.M.length->zO c i->∀ (a:Nat) (r:List UInt8),noB 42 r->t.drop a=bV (c.M.getD i zE)++r ->
    lD (dM t d) t a=⟨c.M.getD i zE,true,a+(bV (c.M.getD i zE)).length⟩:=by
   intro i hi hg a r hr hda
   obtain⟨m,n,c',e1,e2,e3,e4,e5,e6⟩:=TB _ _ (a9h _) hg.1
   have hdk:=tV bJ zE c.M i hi
   exact UY (dM t d) t a r _ c' m n e1 e2 e3 e6 (by omega) (by omega) hr hda (λ r' KI=>US N c' (by have:=hg.2;omega) e2 e3 t d (a+n) r' (by omega) (by omega) KI)
  rcases hk with e|e|e|e|e|e
  .rw[hx.1 e] at ht ⊢
   have hc:=iX c 1 0 [] e (oi c h (by omega) (by omega)) (rl c h (by omega))
   rw[dM,a8O (pw (s:=[48]) ht),<-hc];rfl
  .rw[hx.2.1 e] at ht ⊢
   have hc:=iX c 2 0 [] e (oi c h (by omega) (by omega)) (rl c h (by omega))
   rw[dM,a8y (by rw[oR (b:=49) ht (by decide)];decide),a8O (pw (s:=[49]) ht),<-hc];rfl
  .have hn:=hf.1 (.inl e)
   have hg:zc c.aI=[UInt8.ofNat (48+c.aI.toNat)]:=by unfold zc;rw[Lib.decDigits_one (by omega)]
   rw[hx.2.2.1 e,hg] at ht ⊢
   have h2:t.drop (a+1)=UInt8.ofNat (48+c.aI.toNat)::r:=cu (w:=[116]) ht
   obtain⟨g1,g2⟩:=J7 h2
   have hb:(UInt8.ofNat (48+c.aI.toNat)).toNat=48+c.aI.toNat:=by rw[b1r];omega
   rw[dM,a8y (by rw[oR (b:=116) ht (by decide)];decide),a8y (by rw[oR (b:=116) ht (by decide)];decide),a8O (pw (s:=[116]) ht)]
   have hdb:jP t (a+1)=true:=by unfold jP;rw[g2,hb,decide_eq_true g1,decide_eq_true (by omega),decide_eq_true (by omega)];rfl
   unfold tU
   rw[hdb,g2,hb]
   have hc:=iX c 3 c.aI [] e rfl (rl c h (by omega))
   rw[show (((48+c.aI.toNat:Nat):Int) - 48)=c.aI by omega,<-hc];rfl
  .have hn:=hf.1 (.inr e)
   have hg:zc c.aI=[UInt8.ofNat (48+c.aI.toNat)]:=by unfold zc;rw[Lib.decDigits_one (by omega)]
   rw[hx.2.2.2.1 e,hg] at ht ⊢
   have h2:t.drop (a+1)=UInt8.ofNat (48+c.aI.toNat)::r:=cu (w:=[97]) ht
   obtain⟨g1,g2⟩:=J7 h2
   have hb:(UInt8.ofNat (48+c.aI.toNat)).toNat=48+c.aI.toNat:=by rw[b1r];omega
   rw[dM,a8y (by rw[oR (b:=97) ht (by decide)];decide),a8y (by rw[oR (b:=97) ht (by decide)];decide),a8y (by rw[oR (b:=97) ht (by decide)];decide),a8O (pw (s:=[97]) ht)]
   have hdb:jP t (a+1)=true:=by unfold jP;rw[g2,hb,decide_eq_true g1,decide_eq_true (by omega),decide_eq_true (by omega)];rfl
   unfold tU
   rw[hdb,g2,hb]
   have hc:=iX c 4 c.aI [] e rfl (rl c h (by omega))
   rw[show (((48+c.aI.toNat:Nat):Int) - 48)=c.aI by omega,<-hc];rfl
  .obtain⟨hl,k0,k1⟩:=hf.2.2.1 (.inl e)
   have hc:=iX c 6 0 _ e (oi c h (by omega) (by omega)) (HM c hl)
   rw[hx.2.2.2.2.2.1 e] at ht ⊢
   have p0:t.drop a=40::(bV (c.M.getD 0 zE)++([32,43,32]++(bV (c.M.getD 1 zE)++([41]++r)))):=by rw[ht];simp
   have p1:t.drop (a+1)=bV (c.M.getD 0 zE)++([32,43,32]++(bV (c.M.getD 1 zE)++([41]++r))):=cu (w:=[40]) p0
   have q1:=Iz 0 (by omega) k0 (a+1) _ (λ b l g=>by simp at g;rw[<-g.1];decide) p1
   have p2:=cu p1
   have p3:=cu p2
   have q2:=Iz 1 (by omega) k1 _ _ (λ b l g=>by simp at g;rw[<-g.1];decide) p3
   have p4:=cu p3
   rw[dM,a8y (by rw[oR p0 (by decide)];decide),a8y (by rw[oR p0 (by decide)];decide),a8y (by rw[oR p0 (by decide)];decide),a8y (by rw[oR p0 (by decide)];decide),
    a8y (by rw[pw (s:=[40]) p0];decide)]
   rw[q1]
   simp only
   rw[a8O (pw p2)]
   have q2':lD (dM t d) t (a+1+(bV (c.M.getD 0 zE)).length+3)=_:=q2
   rw[q2']
   unfold tl
   simp only
   rw[show cK t _ [41]=true from pw (s:=[41]) p4]
   simp only[b0O,b1s,RI.mk.injEq,a9l,<-hc]
   simp only[a8K,a8C,a8N];omega
  .obtain⟨hl,k0,k1⟩:=hf.2.2.1 (.inr e)
   have hc:=iX c 7 0 _ e (oi c h (by omega) (by omega)) (HM c hl)
   rw[hx.2.2.2.2.2.2.1 e] at ht ⊢
   have p0:t.drop a=40::(bV (c.M.getD 0 zE)++([32]++(bV (c.M.getD 1 zE)++([41]++r)))):=by rw[ht];simp
   have p1:t.drop (a+1)=bV (c.M.getD 0 zE)++([32]++(bV (c.M.getD 1 zE)++([41]++r))):=cu (w:=[40]) p0
   have q1:=Iz 0 (by omega) k0 (a+1) _ (λ b l g=>by simp at g;rw[<-g.1];decide) p1
   have p2:=cu p1
   have p3:=cu p2
   have q2:=Iz 1 (by omega) k1 _ _ (λ b l g=>by simp at g;rw[<-g.1];decide) p3
   have p4:=cu p3
   have k9:cK t (a+[40].length+(bV (c.M.getD 0 zE)).length) [32,43,32]=false:=by
    cases hb:cK t (a+[40].length+(bV (c.M.getD 0 zE)).length) [32,43,32] with
    | false=>rfl
    | true =>
     obtain⟨r',h'⟩:=(Nr _ _ _).1 hb
     obtain⟨b,l,f1,f2⟩:=Sm _ k1.1
     have p2':=p2
     rw[f1] at p2'
     have h3:=p2'.symm.trans h'
     simp only[a9y,a8T,a8z,a9l] at h3
     exact absurd h3.1 f2
   rw[dM,a8y (by rw[oR p0 (by decide)];decide),a8y (by rw[oR p0 (by decide)];decide),a8y (by rw[oR p0 (by decide)];decide),a8y (by rw[oR p0 (by decide)];decide),
    a8y (by rw[pw (s:=[40]) p0];decide)]
   rw[q1]
   simp only
   rw[a8y (by rw[show cK t (a+1+(bV (c.M.getD 0 zE)).length) [32,43,32]=false from k9];decide),a8O (pw p2)]
   have q2':lD (dM t d) t (a+1+(bV (c.M.getD 0 zE)).length+1)=_:=q2
   rw[q2']
   unfold tl
   simp only
   rw[show cK t _ [41]=true from pw (s:=[41]) p4]
   simp only[b0O,b1s,RI.mk.injEq,a9l,<-hc]
   simp only[a8K,a8C,a8N];omega
theorem a0O(x:J)(h:dT x=true)(h40:bJ x<=40):lD (dM (bV x) 41) (bV x) 0=⟨x,true,(bV x).length⟩:=by
 obtain⟨m,n,c,e1,e2,e3,e4,e5,e6⟩:=TB _ _ (a9h _) h
 have:=UY (dM (bV x) 41) (bV x) 0 [] x c m n e1 e2 e3 e6 (by omega) (by omega) (λ b l g=>by cases g) (by simp) (λ r' KI=>US _ c (a9h _) e2 e3 (bV x) 41 (0+n) r' (by omega) (by omega) KI)
 simpa using this
end
end Go.Proofs.YtmjfpcajohhbeaaGreatDoor

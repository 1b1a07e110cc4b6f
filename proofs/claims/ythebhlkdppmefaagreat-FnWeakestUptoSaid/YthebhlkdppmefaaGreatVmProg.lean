/- Programs: their form. Printed by vmk.py. -/
import Derived.Test.YthebhlkdppmefaaGreatVmUse
import Derived.Test.YthebhlkdppmefaaGreatVmLib
import Derived.Test.YthebhlkdppmefaaGreatVmShaped
import Derived.Test.YthebhlkdppmefaaGreatVmValid
set_option linter.unusedVariables false
set_option linter.unusedSimpArgs false
set_option linter.unusedSectionVars false
set_option maxRecDepth 4000
set_option maxHeartbeats 4000000
namespace Go.Proofs.YthebhlkdppmefaaGreat
noncomputable section
mutual
def a1r:a0d→Nat
 | ⟨_,_,_,ks⟩=>1+d6n ks
def d6n:List a0d→Nat
 | []=>0
 | k::ks=>a1r k+d6n ks
end
theorem g5b:∀ xs,d6n xs=szL a1r xs
 | []=>rfl
 | x::xs=>by rw[d6n,szL,g5b xs]
theorem h1i(x:a0d):a1r x=1+szL a1r x.kids:=by
 cases x;simp[a1r,g5b]
mutual
def a2i:a0d→Nat
 | ⟨_,_,_,ks⟩=>1+d0j ks
def d0j:List a0d→Nat
 | []=>0
 | k::ks=>max (a2i k) (d0j ks)
end
theorem g4m:∀ xs,d0j xs=a4g a2i xs
 | []=>rfl
 | x::xs=>by rw[d0j,a4g,g4m xs]
theorem f2o(x:a0d):a2i x=1+a4g a2i x.kids:=by
 cases x;simp[a2i,g4m]
mutual
theorem f2p:∀ x:a0d,a2i x≤a1r x
 | ⟨k,n,c,ks⟩=>by
  have:=e9l ks
  simp only[a2i,a1r];omega
theorem e9l:∀ xs:List a0d,d0j xs≤d6n xs
 | []=>by simp[d0j]
 | x::xs=>by
  have h1:=f2p x
  have h2:=e9l xs
  simp only[d0j,d6n];omega
end
def a1x(k:Int):Int:=if k=1∨k=2∨k=3∨k=4 then 0 else if k=7 then 1 else if k=5∨k=6 then 2 else -1
def a3n(k:Int):Bool:=decide (k=4)||decide (k=6)||decide (k=7)
def a6s(x:a0b):Bool:=decide (x.kind=0)&&decide (x.num=0)&&decide (x.kids.length=0)
def b9p(gg:a0h)(x:a0d):Bool:=if x.kind=3 then decide (0≤x.num∧x.num≤gg.actions - 1) else decide (x.num=0)
def c0o(gg:a0h)(x:a0d):Bool:=if a3n x.kind=true then isC gg x.cond else a6s x.cond
def b5p(gg:a0h)(x:a0d):Bool:=decide (a1x x.kind=(x.kids.length:Int))&&b9p gg x&&c0o gg x
mutual
def a2g(gg:a0h):a0d→Bool
 | ⟨k,n,c,ks⟩=>b5p gg ⟨k,n,c,ks⟩&&g6u gg ks
def g6u(gg:a0h):List a0d→Bool
 | []=>true
 | k::ks=>a2g gg k&&g6u gg ks
end
theorem h1y(gg:a0h):∀ xs,g6u gg xs=a0v (a2g gg) xs
 | []=>rfl
 | x::xs=>by rw[g6u,a0v,h1y gg xs]
theorem a7g(gg:a0h)(x:a0d):a2g gg x=(b5p gg x&&a0v (a2g gg) x.kids):=by
 cases x;simp[a2g,h1y]
theorem b9g(gg:a0h)(x:a0d):b5p gg x=(decide (a1x x.kind=(x.kids.length:Int))&&b9p gg x&&c0o gg x):=rfl
def b2b(gg:a0h)(x:a0d)(nodes depth:Int):Bool:=a2g gg x&&decide ((a1r x:Int)≤nodes)&&decide ((a2i x:Int)≤depth)
def b8s(gg:a0h)(x:a0d)(nodes depth:Int):Int:=bif b2b gg x nodes depth then nodes - a1r x else 0
theorem g6m(gg:a0h)(x:a0d)(nodes depth:Int) :
  (a2g gg x=true∧(a1r x:Int)≤nodes∧(a2i x:Int)≤depth∧b2b gg x nodes depth=true∧b8s gg x nodes depth=nodes - a1r x) ∨
  ((a2g gg x=false∨nodes<(a1r x:Int)∨depth<(a2i x:Int))∧b2b gg x nodes depth=false∧b8s gg x nodes depth=0):=by
 unfold b8s b2b
 cases a2g gg x
 ·right;simp
 ·rcases Int.lt_or_le nodes (a1r x) with h|h
  ·right;simp[h,Int.not_le.2 h]
  ·rcases Int.lt_or_le depth (a2i x) with h'|h'
   ·right;simp[h',Int.not_le.2 h']
   ·left;simp[h,h']
def isP(gg:a0h)(x:a0d):Bool:=b2b gg x 60 20
def okP(gg:a0h)(x:a0d):Bool:=a1i gg&&isP gg x
theorem e5y(gg:a0h)(x:a0b):okC gg x=(a1i gg&&isC gg x):=by simp[okC,okE,isC,Bool.and_assoc]
theorem f9k(gg:a0h)(h:a1i gg=true):(0≤gg.tests∧gg.tests≤3)∧0≤gg.actions∧gg.actions≤4:=(a4l gg).1 h
def b9v:Ctr:=⟨d3t,[.v (.st .expr)],fun (x:a0b)=>⟨(none,[⟨.bool,a6s x⟩])⟩⟩
def e9q(x:a0b):Nat→a0p:=fun _ => .none
theorem g9t(x:a0b):awp (a0r [] [] [] [1]) (a0j b4r) (e9q x) 0 (a1c (a0r [] [] [] [1]) b4r fun r=>a1f r [⟨.bool,a6s x⟩]) (a0m b4r [.val ⟨(.st .expr),x⟩]) =
 ((a0c x.kind →
 (((decide (x.kind=(0:Int)))=true →
 (a0c x.num →
 (((decide (x.num=(0:Int)))=true →
 (x.kids.length≤140737488355328 →
 (a0c ((x.kids.length:Int)) →
 (decide (((x.kids.length:Int))=(0:Int)))=(a6s x))))∧((decide (x.num=(0:Int)))=(!true) →
 false=(a6s x)))))∧((decide (x.kind=(0:Int)))=(!true) →
 ((false=true →
 (x.kids.length≤140737488355328 →
 (a0c ((x.kids.length:Int)) →
 (decide (((x.kids.length:Int))=(0:Int)))=(a6s x))))∧(false=(!true) →
 false=(a6s x))))))):=by kernel_rfl
theorem g8u(hE:a0o []):Ctr.Good b9v:=by
 refine⟨a0l e3e rfl (by decide),?_⟩
 show ∀ (x:a0b),True→a1e prog d3t [.val ⟨(.st .expr),x⟩] (·=[⟨.bool,a6s x⟩])
 intro x _
 refine a0w (wr:=[]) (cl:=[]) (ro:=[1]) hE e3e g0d (e9q x) ?_
 rewrite [g9t x]
 refine fun a0=>⟨fun a1=>fun a2=>⟨fun a3=>fun a4=>fun a5=>?_,fun a3=>?_⟩,fun a1=>⟨fun a2=>fun a3=>fun a4=>?_,fun a2=>?_⟩⟩
 all_goals try and_intros
 all_goals first|rfl|trivial|grind [a6s]
theorem g0y:Ctr.Good b9v:=g8u trivial
def b8h:Ctr:=⟨d1b,[.r (.st .expr)],fun (x:a0b)=>⟨(none,[⟨.bool,a6s x⟩])⟩⟩
def e5j(x:a0b):Nat→a0p:=fun _ => .none
theorem g7s(x:a0b):awp (a0r []) (a0j b2z) (e5j x) 0 (a1c (a0r []) b2z fun r=>a1f r [⟨.bool,a6s x⟩]) (a0m b2z [.ref ⟨(.st .expr),x⟩]) =
 ((a0c x.kind →
 (((decide (x.kind=(0:Int)))=true →
 (a0c x.num →
 (((decide (x.num=(0:Int)))=true →
 (x.kids.length≤140737488355328 →
 (a0c ((x.kids.length:Int)) →
 (decide (((x.kids.length:Int))=(0:Int)))=(a6s x))))∧((decide (x.num=(0:Int)))=(!true) →
 false=(a6s x)))))∧((decide (x.kind=(0:Int)))=(!true) →
 ((false=true →
 (x.kids.length≤140737488355328 →
 (a0c ((x.kids.length:Int)) →
 (decide (((x.kids.length:Int))=(0:Int)))=(a6s x))))∧(false=(!true) →
 false=(a6s x))))))):=by kernel_rfl
theorem g5y(hE:a0o []):Ctr.Good b8h:=by
 refine⟨a0l e0e rfl (by decide),?_⟩
 show ∀ (x:a0b),True→a1e prog d1b [.ref ⟨(.st .expr),x⟩] (·=[⟨.bool,a6s x⟩])
 intro x _
 refine a0w (wr:=[]) (cl:=[]) (ro:=[]) hE e0e f6x (e5j x) ?_
 rewrite [g7s x]
 refine fun a0=>⟨fun a1=>fun a2=>⟨fun a3=>fun a4=>fun a5=>?_,fun a3=>?_⟩,fun a1=>⟨fun a2=>fun a3=>fun a4=>?_,fun a2=>?_⟩⟩
 all_goals try and_intros
 all_goals first|rfl|trivial|grind [a6s]
theorem f7s:Ctr.Good b8h:=g5y trivial
def b5s:Ctr:=⟨c8o,[.v (.int .i64)],fun (k:Int)=>⟨(none,[⟨(.int .i64),a1x k⟩,⟨.bool,a3n k⟩])⟩⟩
def e1b(k:Int):Nat→a0p:=fun _ => .none
abbrev c4j(k:Int):Prop:=(((decide (k=(4:Int)))=true →
 ((0:Int)=(a1x k)∧true=(a3n k)))∧((decide (k=(4:Int)))=false →
 (((decide (k=(5:Int)))=true →
 ((2:Int)=(a1x k)∧false=(a3n k)))∧((decide (k=(5:Int)))=false →
 (((decide (k=(6:Int)))=true →
 ((2:Int)=(a1x k)∧true=(a3n k)))∧((decide (k=(6:Int)))=false →
 (((decide (k=(7:Int)))=true →
 ((1:Int)=(a1x k)∧true=(a3n k)))∧((decide (k=(7:Int)))=false →
 ((-1:Int)=(a1x k)∧false=(a3n k))))))))))
theorem g2m(k:Int):awp (a0r []) (a0j b1b) (e1b k) 0 (a1c (a0r []) b1b fun r=>a1f r [⟨(.int .i64),a1x k⟩,⟨.bool,a3n k⟩]) (a0m b1b [.val ⟨(.int .i64),k⟩]) =
 ((((decide (k=(1:Int)))=true →
 (((decide (k=(1:Int)))=true →
 ((0:Int)=(a1x k)∧false=(a3n k)))∧((decide (k=(1:Int)))=false →
 (c4j k))))∧((decide (k=(1:Int)))=false →
 (((decide (k=(2:Int)))=true →
 (((decide (k=(2:Int)))=true →
 ((0:Int)=(a1x k)∧false=(a3n k)))∧((decide (k=(2:Int)))=false →
 (c4j k))))∧((decide (k=(2:Int)))=false →
 (((decide (k=(3:Int)))=true →
 ((0:Int)=(a1x k)∧false=(a3n k)))∧((decide (k=(3:Int)))=false →
 (c4j k)))))))):=by kernel_rfl
theorem g1q(hE:a0o []):Ctr.Good b5s:=by
 refine⟨a0l d6x rfl (by decide),?_⟩
 show ∀ (k:Int),True→a1e prog c8o [.val ⟨(.int .i64),k⟩] (·=[⟨(.int .i64),a1x k⟩,⟨.bool,a3n k⟩])
 intro k _
 refine a0w (wr:=[]) (cl:=[]) (ro:=[]) hE d6x f1z (e1b k) ?_
 rewrite [g2m k]
 refine⟨fun a0=>⟨fun a1=>⟨?_,?_⟩,fun a1=>⟨fun a2=>⟨?_,?_⟩,fun a2=>⟨fun a3=>⟨?_,?_⟩,fun a3=>⟨fun a4=>⟨?_,?_⟩,fun a4=>⟨fun a5=>⟨?_,?_⟩,fun a5=>⟨?_,?_⟩⟩⟩⟩⟩⟩,fun a0=>⟨fun a1=>⟨fun a2=>⟨?_,?_⟩,fun a2=>⟨fun a3=>⟨?_,?_⟩,fun a3=>⟨fun a4=>⟨?_,?_⟩,fun a4=>⟨fun a5=>⟨?_,?_⟩,fun a5=>⟨fun a6=>⟨?_,?_⟩,fun a6=>⟨?_,?_⟩⟩⟩⟩⟩⟩,fun a1=>⟨fun a2=>⟨?_,?_⟩,fun a2=>⟨fun a3=>⟨?_,?_⟩,fun a3=>⟨fun a4=>⟨?_,?_⟩,fun a4=>⟨fun a5=>⟨?_,?_⟩,fun a5=>⟨fun a6=>⟨?_,?_⟩,fun a6=>⟨?_,?_⟩⟩⟩⟩⟩⟩⟩⟩
 all_goals try and_intros
 all_goals first|rfl|trivial|grind [a1x,a3n]
theorem f3a:Ctr.Good b5s:=g1q trivial
def b8g:Ctr:=⟨d1a,[.v (.int .i64)],fun (k:Int)=>⟨(none,[⟨(.int .i64),a1x k⟩])⟩⟩
def e5h(k:Int):Nat→a0p:=fun _ => .none
abbrev b9k(k:Int):Prop:=(((decide (k=(7:Int)))=true →
 (1:Int)=(a1x k))∧((decide (k=(7:Int)))=false →
 (((decide (k=(5:Int)))=true →
 (((decide (k=(5:Int)))=true →
 (2:Int)=(a1x k))∧((decide (k=(5:Int)))=false →
 (-1:Int)=(a1x k))))∧((decide (k=(5:Int)))=false →
 (((decide (k=(6:Int)))=true →
 (2:Int)=(a1x k))∧((decide (k=(6:Int)))=false →
 (-1:Int)=(a1x k)))))))
theorem g7q(k:Int):awp (a0r []) (a0j b2x) (e5h k) 0 (a1c (a0r []) b2x fun r=>a1f r [⟨(.int .i64),a1x k⟩]) (a0m b2x [.val ⟨(.int .i64),k⟩]) =
 ((((decide (k=(1:Int)))=true →
 (((decide (k=(1:Int)))=true →
 (0:Int)=(a1x k))∧((decide (k=(1:Int)))=false →
 (b9k k))))∧((decide (k=(1:Int)))=false →
 (((decide (k=(2:Int)))=true →
 (((decide (k=(2:Int)))=true →
 (0:Int)=(a1x k))∧((decide (k=(2:Int)))=false →
 (b9k k))))∧((decide (k=(2:Int)))=false →
 (((decide (k=(3:Int)))=true →
 (((decide (k=(3:Int)))=true →
 (0:Int)=(a1x k))∧((decide (k=(3:Int)))=false →
 (b9k k))))∧((decide (k=(3:Int)))=false →
 (((decide (k=(4:Int)))=true →
 (0:Int)=(a1x k))∧((decide (k=(4:Int)))=false →
 (b9k k)))))))))):=by kernel_rfl
theorem g5w(hE:a0o []):Ctr.Good b8g:=by
 refine⟨a0l e0d rfl (by decide),?_⟩
 show ∀ (k:Int),True→a1e prog d1a [.val ⟨(.int .i64),k⟩] (·=[⟨(.int .i64),a1x k⟩])
 intro k _
 refine a0w (wr:=[]) (cl:=[]) (ro:=[]) hE e0d f6v (e5h k) ?_
 rewrite [g7q k]
 refine⟨fun a0=>⟨fun a1=>?_,fun a1=>⟨fun a2=>?_,fun a2=>⟨fun a3=>⟨fun a4=>?_,fun a4=>?_⟩,fun a3=>⟨fun a4=>?_,fun a4=>?_⟩⟩⟩⟩,fun a0=>⟨fun a1=>⟨fun a2=>?_,fun a2=>⟨fun a3=>?_,fun a3=>⟨fun a4=>⟨fun a5=>?_,fun a5=>?_⟩,fun a4=>⟨fun a5=>?_,fun a5=>?_⟩⟩⟩⟩,fun a1=>⟨fun a2=>⟨fun a3=>?_,fun a3=>⟨fun a4=>?_,fun a4=>⟨fun a5=>⟨fun a6=>?_,fun a6=>?_⟩,fun a5=>⟨fun a6=>?_,fun a6=>?_⟩⟩⟩⟩,fun a2=>⟨fun a3=>?_,fun a3=>⟨fun a4=>?_,fun a4=>⟨fun a5=>⟨fun a6=>?_,fun a6=>?_⟩,fun a5=>⟨fun a6=>?_,fun a6=>?_⟩⟩⟩⟩⟩⟩⟩
 all_goals try and_intros
 all_goals first|rfl|trivial|grind [a1x]
theorem f7q:Ctr.Good b8g:=g5w trivial
def b8f:Ctr:=⟨d0y,[.v (.int .i64)],fun (k:Int)=>⟨(none,[⟨.bool,a3n k⟩])⟩⟩
def e5e(k:Int):Nat→a0p:=fun _ => .none
theorem g7n(k:Int):awp (a0r []) (a0j b2u) (e5e k) 0 (a1c (a0r []) b2u fun r=>a1f r [⟨.bool,a3n k⟩]) (a0m b2u [.val ⟨(.int .i64),k⟩]) =
 ((((decide (k=(4:Int)))=false →
 (((decide (k=(6:Int)))=false →
 (decide (k=(7:Int)))=(a3n k))∧((decide (k=(6:Int)))=(!false) →
 true=(a3n k))))∧((decide (k=(4:Int)))=(!false) →
 ((true=false →
 (decide (k=(7:Int)))=(a3n k))∧(true=(!false) →
 true=(a3n k)))))):=by kernel_rfl
theorem g5t(hE:a0o []):Ctr.Good b8f:=by
 refine⟨a0l e0b rfl (by decide),?_⟩
 show ∀ (k:Int),True→a1e prog d0y [.val ⟨(.int .i64),k⟩] (·=[⟨.bool,a3n k⟩])
 intro k _
 refine a0w (wr:=[]) (cl:=[]) (ro:=[]) hE e0b f6s (e5e k) ?_
 rewrite [g7n k]
 refine⟨fun a0=>⟨fun a1=>?_,fun a1=>?_⟩,fun a0=>⟨fun a1=>?_,fun a1=>?_⟩⟩
 all_goals try and_intros
 all_goals first|rfl|trivial|grind [a3n]
theorem f7o:Ctr.Good b8f:=g5t trivial
def b6b(n:Nat):Ctr:=⟨c3r,[.r (.st .prog), .v (.int .i64)],fun (x:a0d) (left:Int)=>⟨(some (msz x<n∧0≤left∧left≤1048576),[⟨(.int .i64),szR (a1r x) left⟩])⟩⟩
def c3f:Ctr:=⟨c3r,[.r (.st .prog), .v (.int .i64)],fun (x:a0d) (left:Int)=>⟨(some (0≤left∧left≤1048576),[⟨(.int .i64),szR (a1r x) left⟩])⟩⟩
def e5i(x:a0d)(left:Int):Nat→a0p:=(fun zb=>if Nat.beq zb 0 then .mk (Nat) (fun k=>k≤x.kids.length) (fun k=>x.kids.length - k) [] [2,3,6,7] (fun k=>[(5, .imm ⟨(.int .i64),((k:Int):Int)⟩),(1, .imm ⟨(.int .i64),(szR (1+szL a1r (x.kids.take k)) left:Int)⟩)]) [0,1,4,5,8,9,10,11,12,13,14,15,16,17,18,19,20,21,22,23,24,25,26,27,28,29] (fun k=>[]) [] [] (fun k=>fun _ => .none) else .none)
abbrev d8a(n:Nat)(x:a0d)(left:Int)(k1:Nat):Prop:=(x.kids.length≤140737488355328 →
 (a0k (k1:Int) x.kids.length∧((msz (x.kids.getD k1 zP)<n∧0≤(szR (1+szL a1r (x.kids.take k1)) left)∧(szR (1+szL a1r (x.kids.take k1)) left)≤1048576)∧(a0c (szR (a1r (x.kids.getD k1 zP)) (szR (1+szL a1r (x.kids.take k1)) left)) →
 (a0c ((k1:Int)+(1:Int))∧(∃ k2:Nat,(k2≤x.kids.length∧(x.kids.length - k2<x.kids.length - k1∧((x=x∧((szR (a1r (x.kids.getD k1 zP)) (szR (1+szL a1r (x.kids.take k1)) left))=(szR (1+szL a1r (x.kids.take k2)) left)∧((0:Int)=(0:Int)∧(((k1:Int)+(1:Int))=(k2:Int)∧True))))∧True)))))))))
theorem g7r(n:Nat)(x:a0d)(left:Int):awp (a0r [b6b n]) (a0j b2y) (e5i x left) 0 (a1c (a0r [b6b n]) b2y fun r=>a1f r [⟨(.int .i64),szR (a1r x) left⟩]) (a0m b2y [.ref ⟨(.st .prog),x⟩, .val ⟨(.int .i64),left⟩]) =
 ((a0c (left - (1:Int))∧((∃ k1:Nat,(k1≤x.kids.length∧((x=x∧((left - (1:Int))=(szR (1+szL a1r (x.kids.take k1)) left)∧((0:Int)=(0:Int)∧((0:Int)=(k1:Int)∧True))))∧True)))∧(∀ k1:Nat,(k1≤x.kids.length →
 (x.kids.length≤140737488355328 →
 (a0c ((x.kids.length:Int)) →
 (((decide ((k1:Int)<((x.kids.length:Int))))=true →
 (((decide ((0:Int)≤(szR (1+szL a1r (x.kids.take k1)) left)))=true →
 (d8a n x left k1))∧((decide ((0:Int)≤(szR (1+szL a1r (x.kids.take k1)) left)))=false →
 (szR (1+szL a1r (x.kids.take k1)) left)=(szR (a1r x) left))))∧((decide ((k1:Int)<((x.kids.length:Int))))=(!true) →
 ((false=true →
 (d8a n x left k1))∧(false=false →
 (szR (1+szL a1r (x.kids.take k1)) left)=(szR (a1r x) left)))))))))))):=by kernel_rfl
theorem g5x(n:Nat)(hE:a0o [b6b n]):Ctr.Good (b6b (n+1)):=by
 refine⟨a0l c0y rfl (by decide),?_⟩
 show ∀ (x:a0d) (left:Int),(msz x<n+1∧0≤left∧left≤1048576)→a1e prog c3r [.ref ⟨(.st .prog),x⟩, .val ⟨(.int .i64),left⟩] (·=[⟨(.int .i64),szR (a1r x) left⟩])
 intro x left hp
 refine a0w (wr:=[]) (cl:=[]) (ro:=[]) hE c0y f6w (e5i x left) ?_
 rewrite [g7r n x left]
 have f0:=b8x x
 have f1:=e8m a1r x.kids
 have f2:=c0d (1+szL a1r (x.kids.take 0)) left
 refine⟨?_,⟨⟨0,⟨?_,⟨⟨rfl,⟨?_,⟨rfl,⟨?_,trivial⟩⟩⟩⟩,trivial⟩⟩⟩,fun k1 a0=>have b0x0:=c2t a1r zP x.kids k1;have b0x1:=a8g a1r x.kids k1;have b0x2:=a8g a1r x.kids (k1+1);have b0x3:=d1q a1r x.kids k1;have b0x4:=a3d zP x.kids k1;have b0x5:=c0d (1+szL a1r (x.kids.take k1)) left;have b0x6:=c0d (1+szL a1r (x.kids.take (k1+1))) left;have b0x7:=c0d (a1r (x.kids.getD k1 zP)) (szR (1+szL a1r (x.kids.take k1)) left);have b0x8:=c0d (1+szL a1r x.kids) left;fun a1=>fun a2=>⟨fun a3=>⟨fun a4=>fun a5=>⟨?_,⟨?_,fun a6=>⟨?_,⟨k1+1,⟨?_,⟨?_,⟨⟨rfl,⟨?_,⟨rfl,⟨?_,trivial⟩⟩⟩⟩,trivial⟩⟩⟩⟩⟩⟩⟩,fun a4=>?_⟩,fun a3=>⟨fun a4=>fun a5=>⟨?_,⟨?_,fun a6=>⟨?_,⟨k1+1,⟨?_,⟨?_,⟨⟨rfl,⟨?_,⟨rfl,⟨?_,trivial⟩⟩⟩⟩,trivial⟩⟩⟩⟩⟩⟩⟩,fun a4=>?_⟩⟩⟩⟩
 all_goals try and_intros
 all_goals try rw[h1i x]
 all_goals first|rfl|trivial|omega|(simp only[decide_eq_true_eq,decide_eq_false_iff_not,a0k,a0c,a2k,a8i,a5r,a1p] at *;omega)|(simp[a0k,a0c] at *;omega)|grind
theorem g3l :∀ n,a0o [b6b n]
 | 0=>⟨⟨a0l c0y rfl (by decide),fun _ _ h=>absurd h.1 (Nat.not_lt_zero _)⟩,trivial⟩
 | n+1=>by
  have ih:=g3l  n
  exact⟨g5x n ⟨ih.1,trivial⟩,trivial⟩
theorem f7r :Ctr.Good c3f :=
 ⟨a0l c0y rfl (by decide),fun x left hp=>(g3l  (msz x+1)).1.2 x left (⟨Nat.lt_succ_self _,hp⟩)⟩
def b3v(n:Nat):Ctr:=⟨c1n,[.r (.st .prog)],fun (x:a0d)=>⟨(some (msz x<n∧a2i x≤1048576),[⟨(.int .i64),(a2i x:Int)⟩])⟩⟩
def c1k:Ctr:=⟨c1n,[.r (.st .prog)],fun (x:a0d)=>⟨(some (a2i x≤1048576),[⟨(.int .i64),(a2i x:Int)⟩])⟩⟩
def e1g(x:a0d):Nat→a0p:=(fun zb=>if Nat.beq zb 0 then .mk (Nat) (fun k=>k≤x.kids.length) (fun k=>x.kids.length - k) [] [1] (fun k=>[(4, .imm ⟨(.int .i64),((k:Int):Int)⟩),(3, .imm ⟨(.int .i64),((a4g a2i (x.kids.take k):Int):Int)⟩)]) [0,2,3,4,5,6,7,8,9,10,11,12,13,14,15,16,17,18,19,20,21,22,23,24] (fun k=>[]) [] [] (fun k=>fun _ => .none) else .none)
theorem g2r(n:Nat)(x:a0d):awp (a0r [b3v n,a9b]) (a0j b1g) (e1g x) 0 (a1c (a0r [b3v n,a9b]) b1g fun r=>a1f r [⟨(.int .i64),(a2i x:Int)⟩]) (a0m b1g [.ref ⟨(.st .prog),x⟩]) =
 (((∃ k1:Nat,(k1≤x.kids.length∧((x=x∧((0:Int)=(0:Int)∧((0:Int)=(a4g a2i (x.kids.take k1):Int)∧((0:Int)=(k1:Int)∧True))))∧True)))∧(∀ k1:Nat,(k1≤x.kids.length →
 (x.kids.length≤140737488355328 →
 (a0c ((x.kids.length:Int)) →
 (((decide ((k1:Int)<((x.kids.length:Int))))=true →
 (x.kids.length≤140737488355328 →
 (a0k (k1:Int) x.kids.length∧((msz (x.kids.getD k1 zP)<n∧a2i (x.kids.getD k1 zP)≤1048576)∧(a0c ((a2i (x.kids.getD k1 zP):Int)) →
 (a0c (max (a4g a2i (x.kids.take k1):Int) ((a2i (x.kids.getD k1 zP):Int))) →
 (a0c ((k1:Int)+(1:Int))∧(∃ k2:Nat,(k2≤x.kids.length∧(x.kids.length - k2<x.kids.length - k1∧((x=x∧((0:Int)=(0:Int)∧((max (a4g a2i (x.kids.take k1):Int) ((a2i (x.kids.getD k1 zP):Int)))=(a4g a2i (x.kids.take k2):Int)∧(((k1:Int)+(1:Int))=(k2:Int)∧True))))∧True)))))))))))∧((decide ((k1:Int)<((x.kids.length:Int))))=false →
 (a0c ((a4g a2i (x.kids.take k1):Int)+(1:Int))∧((a4g a2i (x.kids.take k1):Int)+(1:Int))=(a2i x:Int)))))))))):=by kernel_rfl
theorem g1v(n:Nat)(hE:a0o [b3v n,a9b]):Ctr.Good (b3v (n+1)):=by
 refine⟨a0l b9c rfl (by decide),?_⟩
 show ∀ (x:a0d),(msz x<n+1∧a2i x≤1048576)→a1e prog c1n [.ref ⟨(.st .prog),x⟩] (·=[⟨(.int .i64),(a2i x:Int)⟩])
 intro x hp
 refine a0w (wr:=[]) (cl:=[]) (ro:=[]) hE b9c f2e (e1g x) ?_
 rewrite [g2r n x]
 rw[f2o x] at hp
 have f0:=b8x x
 have f1:=e1s a2i x.kids
 refine⟨⟨0,⟨?_,⟨⟨rfl,⟨rfl,⟨?_,⟨?_,trivial⟩⟩⟩⟩,trivial⟩⟩⟩,fun k1 a0=>have b0x0:=b8w a2i zP x.kids k1;have b0x1:=a6z a2i x.kids k1;have b0x2:=a6z a2i x.kids (k1+1);have b0x3:=c5z a2i x.kids k1;have b0x4:=a3d zP x.kids k1;have b0x5:=f4e a2i zP x.kids k1;fun a1=>fun a2=>⟨fun a3=>fun a4=>⟨?_,⟨?_,fun a5=>fun a6=>⟨?_,⟨k1+1,⟨?_,⟨?_,⟨⟨rfl,⟨rfl,⟨?_,⟨?_,trivial⟩⟩⟩⟩,trivial⟩⟩⟩⟩⟩⟩⟩,fun a3=>⟨?_,?_⟩⟩⟩
 all_goals try and_intros
 all_goals try rw[f2o x]
 all_goals first|rfl|trivial|omega|(simp only[decide_eq_true_eq,decide_eq_false_iff_not,a0k,a0c,a2k,a8i,a5r,a1p] at *;omega)|(simp[a0k,a0c] at *;omega)|grind
theorem f8u :∀ n,a0o [b3v n]
 | 0=>⟨⟨a0l b9c rfl (by decide),fun _ h=>absurd h.1 (Nat.not_lt_zero _)⟩,trivial⟩
 | n+1=>by
  have ih:=f8u  n
  exact⟨g1v n ⟨ih.1,d7r,trivial⟩,trivial⟩
theorem f3e :Ctr.Good c1k :=
 ⟨a0l b9c rfl (by decide),fun x hp=>(f8u  (msz x+1)).1.2 x (⟨Nat.lt_succ_self _,hp⟩)⟩
def b3t(n:Nat):Ctr:=⟨c1l,[.v (.st .sig), .v (.st .prog), .v (.int .i64), .v (.int .i64)],fun (gg:a0h) (x:a0d) (nodes:Int) (depth:Int)=>⟨(some (msz x<n∧a1i gg=true∧0≤nodes∧nodes≤1048576∧0≤depth∧depth≤1048576),[⟨(.int .i64),b8s gg x nodes depth⟩,⟨.bool,b2b gg x nodes depth⟩])⟩⟩
def c1i:Ctr:=⟨c1l,[.v (.st .sig), .v (.st .prog), .v (.int .i64), .v (.int .i64)],fun (gg:a0h) (x:a0d) (nodes:Int) (depth:Int)=>⟨(some (a1i gg=true∧0≤nodes∧nodes≤1048576∧0≤depth∧depth≤1048576),[⟨(.int .i64),b8s gg x nodes depth⟩,⟨.bool,b2b gg x nodes depth⟩])⟩⟩
def e1a(gg:a0h)(x:a0d)(nodes:Int)(depth:Int):Nat→a0p:=(fun zb=>if Nat.beq zb 100004 then .mk (Unit) (fun u=>a1x x.kind=(x.kids.length:Int)∧1≤nodes∧1≤depth) (fun u=>0) [] [0,1,6,7,10,12,16,17,18,19,20,21,22,23,24,25,26,27,28,29,30,31,32,33,34] (fun u=>[]) [2,3,4,5,8,9,11,13,14,15,35,36,37,38,39,40,41,42,43,44,45,46,47,48,49,50,51,52,53,54,55,56,57,58,59,60,61,62,63,64,65,66,67,68,69,70,71,72,73,74,75,76,77,78,79,80,81,82,83,84,85,86,87,88,89,90,91,92,93,94,95,96,97] (fun u=>[]) [] [] (fun u=>(fun zb=>if Nat.beq zb 100006 then .mk (Unit) (fun u=>a1x x.kind=(x.kids.length:Int)∧1≤nodes∧1≤depth∧c0o gg x=true) (fun u=>0) [] [0,1,6,7,10,11,12,16,17,18,19,20,21,22,23,24,25,26,27,28,29,30,31,32,33,34,35,36,37,38,39,40,41,42,43,44,45,46,47,48,49,50,51,52] (fun u=>[]) [2,3,4,5,8,9,13,14,15,53,54,55,56,57,58,59,60,61,62,63,64,65,66,67,68,69,70,71,72,73,74,75,76,77,78,79,80,81,82,83,84,85,86,87,88,89,90,91,92,93,94,95,96,97] (fun u=>[]) [] [] (fun u=>(fun zb=>if Nat.beq zb 100008 then .mk (Unit) (fun u=>b5p gg x=true∧1≤nodes∧1≤depth) (fun u=>0) [] [0,1,6,7,10,11,12,16,17,18,19,20,21,22,23,24,25,26,27,28,29,30,31,32,33,34,35,36,37,38,39,40,41,42,43,44,45,46,47,48,49,50,51,52,53,54,55,56,57,58,59,60,61,62,63,64,65,66,67,68,69,70,71,72,73,74] (fun u=>[]) [2,3,4,5,8,9,13,14,15,75,76,77,78,79,80,81,82,83,84,85,86,87,88,89,90,91,92,93,94,95,96,97] (fun u=>[]) [] [] (fun u=>(fun zb=>if Nat.beq zb 0 then .mk (Nat) (fun k=>k≤x.kids.length∧a0v (a2g gg) (x.kids.take k)=true∧1+(szL a1r (x.kids.take k):Int)≤nodes∧1+(a4g a2i (x.kids.take k):Int)≤depth) (fun k=>x.kids.length - k) [] [0,1,5,6,7,10,11,12,16,17,18,19,20,21,22,23,24,25,26,27,28,29,30,31,32,33,34,35,36,37,38,39,40,41,42,43,44,45,46,47,48,49,50,51,52,53,54,55,56,57,58,59,60,61,62,63,64,65,66,67,68,69,70,71,72,73,74,75,76,77] (fun k=>[(80, .imm ⟨(.int .i64),((k:Int):Int)⟩),(2, .imm ⟨(.int .i64),(nodes - (1+(szL a1r (x.kids.take k):Int)):Int)⟩)]) [2,3,4,8,9,13,14,15,78,79,80,81,82,83,84,85,86,87,88,89,90,91,92,93,94,95,96,97] (fun k=>[]) [] [] (fun k=>fun _ => .none) else .none)) else .none)) else .none)) else .none)
abbrev d4w(gg:a0h)(x:a0d)(nodes:Int)(depth:Int):Prop:=(∃ u1:Unit,((a1x x.kind=(x.kids.length:Int)∧1≤nodes∧1≤depth)∧((nodes=nodes∧(depth=depth∧(gg=gg∧(x=x∧((a3n x.kind)=(a3n x.kind)∧True)))))∧True)))
abbrev d4x(gg:a0h)(x:a0d)(nodes:Int)(depth:Int):Prop:=(x.kids.length≤140737488355328 →
 (a0c ((x.kids.length:Int)) →
 (((!(decide ((a1x x.kind)=((x.kids.length:Int)))))=true →
 ((0:Int)=(b8s gg x nodes depth)∧false=(b2b gg x nodes depth)))∧((!(decide ((a1x x.kind)=((x.kids.length:Int)))))=false →
 (d4w gg x nodes depth)))))
abbrev d4y(gg:a0h)(x:a0d)(nodes:Int)(depth:Int):Prop:=((true=true →
 ((0:Int)=(b8s gg x nodes depth)∧false=(b2b gg x nodes depth)))∧(true=false →
 (d4w gg x nodes depth)))
abbrev c4h(gg:a0h)(x:a0d)(nodes:Int)(depth:Int):Prop:=(∃ u2:Unit,((a1x x.kind=(x.kids.length:Int)∧1≤nodes∧1≤depth∧c0o gg x=true)∧((nodes=nodes∧(depth=depth∧(gg=gg∧(x=x∧True))))∧True)))
abbrev d4z(gg:a0h)(x:a0d)(nodes:Int)(depth:Int):Prop:=(((!(a3n x.kind))=true →
 (((!(a6s x.cond))=true →
 ((0:Int)=(b8s gg x nodes depth)∧false=(b2b gg x nodes depth)))∧((!(a6s x.cond))=false →
 (c4h gg x nodes depth))))∧((!(a3n x.kind))=(!true) →
 ((false=true →
 ((0:Int)=(b8s gg x nodes depth)∧false=(b2b gg x nodes depth)))∧(false=false →
 (c4h gg x nodes depth)))))
abbrev d5a(gg:a0h)(x:a0d)(nodes:Int)(depth:Int):Prop:=((true=true →
 ((0:Int)=(b8s gg x nodes depth)∧false=(b2b gg x nodes depth)))∧(true=false →
 (c4h gg x nodes depth)))
abbrev c4i(gg:a0h)(x:a0d)(nodes:Int)(depth:Int):Prop:=(∃ u3:Unit,((b5p gg x=true∧1≤nodes∧1≤depth)∧((nodes=nodes∧(depth=depth∧(gg=gg∧(x=x∧True))))∧True)))
abbrev d5b(gg:a0h)(x:a0d)(nodes:Int)(depth:Int):Prop:=(a0c x.kind →
 (((!(decide (x.kind=(3:Int))))=true →
 (a0c x.num →
 (((!(decide (x.num=(0:Int))))=true →
 ((0:Int)=(b8s gg x nodes depth)∧false=(b2b gg x nodes depth)))∧((!(decide (x.num=(0:Int))))=false →
 (c4i gg x nodes depth)))))∧((!(decide (x.kind=(3:Int))))=(!true) →
 ((false=true →
 ((0:Int)=(b8s gg x nodes depth)∧false=(b2b gg x nodes depth)))∧(false=false →
 (c4i gg x nodes depth))))))
abbrev d5c(gg:a0h)(x:a0d)(nodes:Int)(depth:Int):Prop:=((true=true →
 ((0:Int)=(b8s gg x nodes depth)∧false=(b2b gg x nodes depth)))∧(true=false →
 (c4i gg x nodes depth)))
theorem g2l(n:Nat)(gg:a0h)(x:a0d)(nodes:Int)(depth:Int):awp (a0r [b3t n,b5s,a2b,b9v,a3b] [] [] [4,5]) (a0j b1a) (e1a gg x nodes depth) 0 (a1c (a0r [b3t n,b5s,a2b,b9v,a3b] [] [] [4,5]) b1a fun r=>a1f r [⟨(.int .i64),b8s gg x nodes depth⟩,⟨.bool,b2b gg x nodes depth⟩]) (a0m b1a [.val ⟨(.st .sig),gg⟩, .val ⟨(.st .prog),x⟩, .val ⟨(.int .i64),nodes⟩, .val ⟨(.int .i64),depth⟩]) =
 ((a0c x.kind →
 (a0c (a1x x.kind) →
 ((((decide (nodes=(0:Int)))=false →
 (((decide (depth=(0:Int)))=false →
 (d4x gg x nodes depth))∧((decide (depth=(0:Int)))=(!false) →
 (d4y gg x nodes depth))))∧((decide (nodes=(0:Int)))=(!false) →
 ((true=false →
 (d4x gg x nodes depth))∧(true=(!false) →
 (d4y gg x nodes depth)))))∧(∀ u1:Unit,((a1x x.kind=(x.kids.length:Int)∧1≤nodes∧1≤depth) →
 ((((a3n x.kind)=true →
 (((!(isC gg x.cond))=false →
 (d4z gg x nodes depth))∧((!(isC gg x.cond))=(!false) →
 (d5a gg x nodes depth))))∧((a3n x.kind)=(!true) →
 ((false=false →
 (d4z gg x nodes depth))∧(false=(!false) →
 (d5a gg x nodes depth)))))∧(∀ u2:Unit,((a1x x.kind=(x.kids.length:Int)∧1≤nodes∧1≤depth∧c0o gg x=true) →
 ((a0c x.kind →
 (((decide (x.kind=(3:Int)))=true →
 (a0c x.num →
 (a0c gg.actions →
 (a0c (gg.actions - (1:Int))∧((((!(decide ((0:Int)≤x.num∧x.num≤(gg.actions - (1:Int)))))=false) →
 (d5b gg x nodes depth))∧(((!(decide ((0:Int)≤x.num∧x.num≤(gg.actions - (1:Int)))))=(!false)) →
 (d5c gg x nodes depth)))))))∧((decide (x.kind=(3:Int)))=(!true) →
 ((false=false →
 (d5b gg x nodes depth))∧(false=(!false) →
 (d5c gg x nodes depth))))))∧(∀ u3:Unit,((b5p gg x=true∧1≤nodes∧1≤depth) →
 (a0c (nodes - (1:Int))∧(x.kids.length≤140737488355328 →
 (a0c ((x.kids.length:Int)) →
 ((∃ k4:Nat,((k4≤x.kids.length∧a0v (a2g gg) (x.kids.take k4)=true∧1+(szL a1r (x.kids.take k4):Int)≤nodes∧1+(a4g a2i (x.kids.take k4):Int)≤depth)∧(((nodes - (1:Int))=(nodes - (1+(szL a1r (x.kids.take k4):Int)))∧(depth=depth∧(gg=gg∧(x.kids=x.kids∧(((x.kids.length:Int))=((x.kids.length:Int))∧((0:Int)=(k4:Int)∧True))))))∧True)))∧(∀ k4:Nat,((k4≤x.kids.length∧a0v (a2g gg) (x.kids.take k4)=true∧1+(szL a1r (x.kids.take k4):Int)≤nodes∧1+(a4g a2i (x.kids.take k4):Int)≤depth) →
 (((decide ((k4:Int)<((x.kids.length:Int))))=true →
 (a0k (k4:Int) x.kids.length∧(a0c (depth - (1:Int))∧((msz (a1a (x.kids.getD k4 zP))<n∧a1i gg=true∧0≤(nodes - (1+(szL a1r (x.kids.take k4):Int)))∧(nodes - (1+(szL a1r (x.kids.take k4):Int)))≤1048576∧0≤(depth - (1:Int))∧(depth - (1:Int))≤1048576)∧(a0c (b8s gg (a1a (x.kids.getD k4 zP)) (nodes - (1+(szL a1r (x.kids.take k4):Int))) (depth - (1:Int))) →
 (((!(b2b gg (a1a (x.kids.getD k4 zP)) (nodes - (1+(szL a1r (x.kids.take k4):Int))) (depth - (1:Int))))=true →
 ((0:Int)=(b8s gg x nodes depth)∧false=(b2b gg x nodes depth)))∧((!(b2b gg (a1a (x.kids.getD k4 zP)) (nodes - (1+(szL a1r (x.kids.take k4):Int))) (depth - (1:Int))))=false →
 (a0c ((k4:Int)+(1:Int))∧(∃ k5:Nat,((k5≤x.kids.length∧a0v (a2g gg) (x.kids.take k5)=true∧1+(szL a1r (x.kids.take k5):Int)≤nodes∧1+(a4g a2i (x.kids.take k5):Int)≤depth)∧(x.kids.length - k5<x.kids.length - k4∧(((b8s gg (a1a (x.kids.getD k4 zP)) (nodes - (1+(szL a1r (x.kids.take k4):Int))) (depth - (1:Int)))=(nodes - (1+(szL a1r (x.kids.take k5):Int)))∧(depth=depth∧(gg=gg∧(x.kids=x.kids∧(((x.kids.length:Int))=((x.kids.length:Int))∧(((k4:Int)+(1:Int))=(k5:Int)∧True))))))∧True))))))))))))∧((decide ((k4:Int)<((x.kids.length:Int))))=false →
 ((nodes - (1+(szL a1r (x.kids.take k4):Int)))=(b8s gg x nodes depth)∧true=(b2b gg x nodes depth)))))))))))))))))))))):=by kernel_rfl
theorem g1p(n:Nat)(hE:a0o [b3t n,b5s,a2b,b9v,a3b]):Ctr.Good (b3t (n+1)):=by
 refine⟨a0l b9a rfl (by decide),?_⟩
 show ∀ (gg:a0h) (x:a0d) (nodes:Int) (depth:Int),(msz x<n+1∧a1i gg=true∧0≤nodes∧nodes≤1048576∧0≤depth∧depth≤1048576)→a1e prog c1l [.val ⟨(.st .sig),gg⟩, .val ⟨(.st .prog),x⟩, .val ⟨(.int .i64),nodes⟩, .val ⟨(.int .i64),depth⟩] (·=[⟨(.int .i64),b8s gg x nodes depth⟩,⟨.bool,b2b gg x nodes depth⟩])
 intro gg x nodes depth hp
 refine a0w (wr:=[]) (cl:=[]) (ro:=[4,5]) hE b9a f1y (e1a gg x nodes depth) ?_
 rewrite [g2l n gg x nodes depth]
 have fg:=f9k gg hp.2.1
 have fs:=g6m gg x nodes depth
 rw[a7g gg x,h1i x,f2o x] at fs
 have f0:=b8x x
 have f1:=e8m a1r x.kids
 have f2:=e1s a2i x.kids
 have f3:=a8h (a2g gg) x.kids
 refine fun a0=>fun a1=>⟨⟨fun a2=>⟨fun a3=>fun a4=>fun a5=>⟨fun a6=>⟨?_,?_⟩,fun a6=>⟨(),⟨?_,⟨⟨rfl,⟨rfl,⟨rfl,⟨rfl,⟨rfl,trivial⟩⟩⟩⟩⟩,trivial⟩⟩⟩⟩,fun a3=>⟨fun a4=>⟨?_,?_⟩,fun a4=>⟨(),⟨?_,⟨⟨rfl,⟨rfl,⟨rfl,⟨rfl,⟨rfl,trivial⟩⟩⟩⟩⟩,trivial⟩⟩⟩⟩⟩,fun a2=>⟨fun a3=>fun a4=>fun a5=>⟨fun a6=>⟨?_,?_⟩,fun a6=>⟨(),⟨?_,⟨⟨rfl,⟨rfl,⟨rfl,⟨rfl,⟨rfl,trivial⟩⟩⟩⟩⟩,trivial⟩⟩⟩⟩,fun a3=>⟨fun a4=>⟨?_,?_⟩,fun a4=>⟨(),⟨?_,⟨⟨rfl,⟨rfl,⟨rfl,⟨rfl,⟨rfl,trivial⟩⟩⟩⟩⟩,trivial⟩⟩⟩⟩⟩⟩,fun u1=>fun a2=>⟨⟨fun a3=>⟨fun a4=>⟨fun a5=>⟨fun a6=>⟨?_,?_⟩,fun a6=>⟨(),⟨?_,⟨⟨rfl,⟨rfl,⟨rfl,⟨rfl,trivial⟩⟩⟩⟩,trivial⟩⟩⟩⟩,fun a5=>⟨fun a6=>⟨?_,?_⟩,fun a6=>⟨(),⟨?_,⟨⟨rfl,⟨rfl,⟨rfl,⟨rfl,trivial⟩⟩⟩⟩,trivial⟩⟩⟩⟩⟩,fun a4=>⟨fun a5=>⟨?_,?_⟩,fun a5=>⟨(),⟨?_,⟨⟨rfl,⟨rfl,⟨rfl,⟨rfl,trivial⟩⟩⟩⟩,trivial⟩⟩⟩⟩⟩,fun a3=>⟨fun a4=>⟨fun a5=>⟨fun a6=>⟨?_,?_⟩,fun a6=>⟨(),⟨?_,⟨⟨rfl,⟨rfl,⟨rfl,⟨rfl,trivial⟩⟩⟩⟩,trivial⟩⟩⟩⟩,fun a5=>⟨fun a6=>⟨?_,?_⟩,fun a6=>⟨(),⟨?_,⟨⟨rfl,⟨rfl,⟨rfl,⟨rfl,trivial⟩⟩⟩⟩,trivial⟩⟩⟩⟩⟩,fun a4=>⟨fun a5=>⟨?_,?_⟩,fun a5=>⟨(),⟨?_,⟨⟨rfl,⟨rfl,⟨rfl,⟨rfl,trivial⟩⟩⟩⟩,trivial⟩⟩⟩⟩⟩⟩,fun u2=>fun a3=>⟨fun a4=>⟨fun a5=>fun a6=>fun a7=>⟨?_,⟨fun a8=>fun a9=>⟨fun a10=>fun a11=>⟨fun a12=>⟨?_,?_⟩,fun a12=>⟨(),⟨?_,⟨⟨rfl,⟨rfl,⟨rfl,⟨rfl,trivial⟩⟩⟩⟩,trivial⟩⟩⟩⟩,fun a10=>⟨fun a11=>⟨?_,?_⟩,fun a11=>⟨(),⟨?_,⟨⟨rfl,⟨rfl,⟨rfl,⟨rfl,trivial⟩⟩⟩⟩,trivial⟩⟩⟩⟩⟩,fun a8=>⟨fun a9=>⟨?_,?_⟩,fun a9=>⟨(),⟨?_,⟨⟨rfl,⟨rfl,⟨rfl,⟨rfl,trivial⟩⟩⟩⟩,trivial⟩⟩⟩⟩⟩⟩,fun a5=>⟨fun a6=>fun a7=>⟨fun a8=>fun a9=>⟨fun a10=>⟨?_,?_⟩,fun a10=>⟨(),⟨?_,⟨⟨rfl,⟨rfl,⟨rfl,⟨rfl,trivial⟩⟩⟩⟩,trivial⟩⟩⟩⟩,fun a8=>⟨fun a9=>⟨?_,?_⟩,fun a9=>⟨(),⟨?_,⟨⟨rfl,⟨rfl,⟨rfl,⟨rfl,trivial⟩⟩⟩⟩,trivial⟩⟩⟩⟩⟩,fun a6=>⟨fun a7=>⟨?_,?_⟩,fun a7=>⟨(),⟨?_,⟨⟨rfl,⟨rfl,⟨rfl,⟨rfl,trivial⟩⟩⟩⟩,trivial⟩⟩⟩⟩⟩⟩,fun u3=>fun a4=>⟨?_,fun a5=>fun a6=>⟨⟨0,⟨?_,⟨⟨?_,⟨rfl,⟨rfl,⟨rfl,⟨rfl,⟨?_,trivial⟩⟩⟩⟩⟩⟩,trivial⟩⟩⟩,fun k4 a7=>have b7x0:=a3h (a2g gg) zP x.kids k4;have b7x1:=a4c (a2g gg) zP x.kids k4;have b7x2:=a3l (a2g gg) x.kids k4;have b7x3:=a3d zP x.kids k4;have b7x4:=c2t a1r zP x.kids k4;have b7x5:=a8g a1r x.kids (k4+1);have b7x6:=d1q a1r x.kids k4;have b7x7:=b8w a2i zP x.kids k4;have b7x8:=a6z a2i x.kids (k4+1);have b7x9:=c5z a2i x.kids k4;have b7x10:=g6m gg (x.kids.getD k4 zP) (nodes - (1+(szL a1r (x.kids.take k4):Int))) (depth - 1);⟨fun a8=>⟨?_,⟨?_,⟨?_,fun a9=>⟨fun a10=>⟨?_,?_⟩,fun a10=>⟨?_,⟨k4+1,⟨?_,⟨?_,⟨⟨?_,⟨rfl,⟨rfl,⟨rfl,⟨rfl,⟨?_,trivial⟩⟩⟩⟩⟩⟩,trivial⟩⟩⟩⟩⟩⟩⟩⟩⟩,fun a8=>⟨?_,?_⟩⟩⟩⟩⟩⟩⟩
 all_goals try and_intros
 all_goals try simp only[a0b.eta,a0d.eta,a1g.eta,a0e.eta,a2u,a2z,a2o,a2f] at *
 all_goals (first|rfl|trivial|(simp only[decide_eq_true_eq,decide_eq_false_iff_not,a0k,a0c] at *;omega)|(rcases fs with ⟨t1,t2,t3,t4,t5⟩|⟨t1,t4,t5⟩<;>(try rw[t4])<;>(try rw[t5])<;>clear t4 t5<;>simp only[decide_eq_true_eq,decide_eq_false_iff_not,b9g,b9p,c0o,Bool.and_eq_true,Bool.and_eq_false_iff,Bool.not_eq_true',Bool.not_eq_false',a0c] at *<;>first|rfl|omega|grind|grind [a1x]))
theorem g3j :∀ n,a0o [b3t n]
 | 0=>⟨⟨a0l b9a rfl (by decide),fun _ _ _ _ h=>absurd h.1 (Nat.not_lt_zero _)⟩,trivial⟩
 | n+1=>by
  have ih:=g3j  n
  exact⟨g1p n ⟨ih.1,f3a,a7x,g0y,b3i,trivial⟩,trivial⟩
theorem f2z :Ctr.Good c1i :=
 ⟨a0l b9a rfl (by decide),fun gg x nodes depth hp=>(g3j  (msz x+1)).1.2 gg x nodes depth (⟨Nat.lt_succ_self _,hp⟩)⟩
def b6c(n:Nat):Ctr:=⟨c3s,[.v (.st .sig), .r (.st .prog)],fun (gg:a0h) (x:a0d)=>⟨(some (msz x<n∧a1i gg=true),[⟨.bool,a2g gg x⟩])⟩⟩
def c3g:Ctr:=⟨c3s,[.v (.st .sig), .r (.st .prog)],fun (gg:a0h) (x:a0d)=>⟨(some (a1i gg=true),[⟨.bool,a2g gg x⟩])⟩⟩
def e5k(gg:a0h)(x:a0d):Nat→a0p:=(fun zb=>if Nat.beq zb 100003 then .mk (Unit) (fun u=>a1x x.kind=(x.kids.length:Int)) (fun u=>0) [] [0,3,6,7,8,9,10,11,12,13,14,15,16] (fun u=>[]) [1,2,4,5,17,18,19,20,21,22,23,24,25,26,27,28,29,30,31,32,33,34,35,36,37,38,39,40,41,42,43,44,45,46,47,48,49,50,51,52,53,54,55,56,57,58,59,60,61,62,63,64,65,66,67,68,69,70,71,72,73,74,75,76,77,78,79,80,81,82,83,84,85,86,87,88,89,90,91,92] (fun u=>[]) [] [] (fun u=>(fun zb=>if Nat.beq zb 100005 then .mk (Unit) (fun u=>a1x x.kind=(x.kids.length:Int)∧b9p gg x=true) (fun u=>0) [] [0,3,6,7,8,9,10,11,12,13,14,15,16,17,18,19,20,21,22,23,24,25,26,27,28,29,30,31,32,33,34,35,36,37,38,39,40,41,42,43,44,45,46] (fun u=>[]) [1,2,4,5,47,48,49,50,51,52,53,54,55,56,57,58,59,60,61,62,63,64,65,66,67,68,69,70,71,72,73,74,75,76,77,78,79,80,81,82,83,84,85,86,87,88,89,90,91,92] (fun u=>[]) [] [] (fun u=>(fun zb=>if Nat.beq zb 100007 then .mk (Unit) (fun u=>b5p gg x=true) (fun u=>0) [] [0,3,6,7,8,9,10,11,12,13,14,15,16,17,18,19,20,21,22,23,24,25,26,27,28,29,30,31,32,33,34,35,36,37,38,39,40,41,42,43,44,45,46,47,48,49,50,51,52,53,54,55,56,57,58,59,60,61,62,63,64,65,66,67,68,69,70,71,72,73,74] (fun u=>[]) [1,2,4,5,75,76,77,78,79,80,81,82,83,84,85,86,87,88,89,90,91,92] (fun u=>[]) [] [] (fun u=>(fun zb=>if Nat.beq zb 0 then .mk (Nat) (fun k=>k≤x.kids.length∧a0v (a2g gg) (x.kids.take k)=true) (fun k=>x.kids.length - k) [] [0,3,6,7,8,9,10,11,12,13,14,15,16,17,18,19,20,21,22,23,24,25,26,27,28,29,30,31,32,33,34,35,36,37,38,39,40,41,42,43,44,45,46,47,48,49,50,51,52,53,54,55,56,57,58,59,60,61,62,63,64,65,66,67,68,69,70,71,72,73,74] (fun k=>[(5, .imm ⟨(.int .i64),((k:Int):Int)⟩)]) [1,2,4,5,75,76,77,78,79,80,81,82,83,84,85,86,87,88,89,90,91,92] (fun k=>[]) [] [] (fun k=>fun _ => .none) else .none)) else .none)) else .none)) else .none)
abbrev d8b(gg:a0h)(x:a0d):Prop:=(a0c x.kind →
 (((!(decide (x.kind=(3:Int))))=true →
 (a0c x.num →
 (((!(decide (x.num=(0:Int))))=true →
 false=(a2g gg x))∧((!(decide (x.num=(0:Int))))=false →
 (∃ u2:Unit,((a1x x.kind=(x.kids.length:Int)∧b9p gg x=true)∧((x=x∧(gg=gg∧True))∧True)))))))∧((!(decide (x.kind=(3:Int))))=(!true) →
 ((false=true →
 false=(a2g gg x))∧(false=false →
 (∃ u2:Unit,((a1x x.kind=(x.kids.length:Int)∧b9p gg x=true)∧((x=x∧(gg=gg∧True))∧True))))))))
abbrev d8c(gg:a0h)(x:a0d):Prop:=((true=true →
 false=(a2g gg x))∧(true=false →
 (∃ u2:Unit,((a1x x.kind=(x.kids.length:Int)∧b9p gg x=true)∧((x=x∧(gg=gg∧True))∧True)))))
abbrev d8d(gg:a0h)(x:a0d):Prop:=(a0c x.kind →
 (((!(a3n x.kind))=true →
 (((!(a6s x.cond))=true →
 false=(a2g gg x))∧((!(a6s x.cond))=false →
 (∃ u3:Unit,(b5p gg x=true∧((x=x∧(gg=gg∧True))∧True))))))∧((!(a3n x.kind))=(!true) →
 ((false=true →
 false=(a2g gg x))∧(false=false →
 (∃ u3:Unit,(b5p gg x=true∧((x=x∧(gg=gg∧True))∧True))))))))
theorem g7t(n:Nat)(gg:a0h)(x:a0d):awp (a0r [b6c n,b8g,a4e,b8f,a7z,b8h] [] [] [2]) (a0j b3b) (e5k gg x) 0 (a1c (a0r [b6c n,b8g,a4e,b8f,a7z,b8h] [] [] [2]) b3b fun r=>a1f r [⟨.bool,a2g gg x⟩]) (a0m b3b [.val ⟨(.st .sig),gg⟩, .ref ⟨(.st .prog),x⟩]) =
 (((x.kids.length≤140737488355328 →
 (a0c ((x.kids.length:Int)) →
 (a0c x.kind →
 (a0c (a1x x.kind) →
 (((!(decide (((x.kids.length:Int))=(a1x x.kind))))=true →
 false=(a2g gg x))∧((!(decide (((x.kids.length:Int))=(a1x x.kind))))=false →
 (∃ u1:Unit,(a1x x.kind=(x.kids.length:Int)∧((x=x∧(gg=gg∧True))∧True)))))))))∧(∀ u1:Unit,(a1x x.kind=(x.kids.length:Int) →
 ((((decide (x.kind=(3:Int)))=true →
 (a0c (gg.actions - (1:Int))∧(a0c x.kind →
 (a0c x.num →
 (a0c gg.actions →
 ((((!(decide ((0:Int)≤x.num∧x.num≤(gg.actions - (1:Int)))))=false) →
 (d8b gg x))∧(((!(decide ((0:Int)≤x.num∧x.num≤(gg.actions - (1:Int)))))=(!false)) →
 (d8c gg x))))))))∧((decide (x.kind=(3:Int)))=(!true) →
 (a0c x.kind →
 ((false=false →
 (d8b gg x))∧(false=(!false) →
 (d8c gg x))))))∧(∀ u2:Unit,((a1x x.kind=(x.kids.length:Int)∧b9p gg x=true) →
 ((((a3n x.kind)=true →
 (a0c x.kind →
 (((!(okC gg x.cond))=false →
 (d8d gg x))∧((!(okC gg x.cond))=(!false) →
 ((true=true →
 false=(a2g gg x))∧(true=false →
 (∃ u3:Unit,(b5p gg x=true∧((x=x∧(gg=gg∧True))∧True)))))))))∧((a3n x.kind)=(!true) →
 (a0c x.kind →
 ((false=false →
 (d8d gg x))∧(false=(!false) →
 ((true=true →
 false=(a2g gg x))∧(true=false →
 (∃ u3:Unit,(b5p gg x=true∧((x=x∧(gg=gg∧True))∧True))))))))))∧(∀ u3:Unit,(b5p gg x=true →
 ((∃ k4:Nat,((k4≤x.kids.length∧a0v (a2g gg) (x.kids.take k4)=true)∧((x=x∧(gg=gg∧((0:Int)=(k4:Int)∧True)))∧True)))∧(∀ k4:Nat,((k4≤x.kids.length∧a0v (a2g gg) (x.kids.take k4)=true) →
 (x.kids.length≤140737488355328 →
 (a0c ((x.kids.length:Int)) →
 (((decide ((k4:Int)<((x.kids.length:Int))))=true →
 (a0k (k4:Int) x.kids.length∧(x.kids.length≤140737488355328 →
 ((msz (x.kids.getD k4 zP)<n∧a1i gg=true)∧(((!(a2g gg (x.kids.getD k4 zP)))=true →
 false=(a2g gg x))∧((!(a2g gg (x.kids.getD k4 zP)))=false →
 (a0c ((k4:Int)+(1:Int))∧(∃ k5:Nat,((k5≤x.kids.length∧a0v (a2g gg) (x.kids.take k5)=true)∧(x.kids.length - k5<x.kids.length - k4∧((x=x∧(gg=gg∧(((k4:Int)+(1:Int))=(k5:Int)∧True)))∧True)))))))))))∧((decide ((k4:Int)<((x.kids.length:Int))))=false →
 true=(a2g gg x)))))))))))))))))):=by kernel_rfl
theorem g5z(n:Nat)(hE:a0o [b6c n,b8g,a4e,b8f,a7z,b8h]):Ctr.Good (b6c (n+1)):=by
 refine⟨a0l c0z rfl (by decide),?_⟩
 show ∀ (gg:a0h) (x:a0d),(msz x<n+1∧a1i gg=true)→a1e prog c3s [.val ⟨(.st .sig),gg⟩, .ref ⟨(.st .prog),x⟩] (·=[⟨.bool,a2g gg x⟩])
 intro gg x hp
 refine a0w (wr:=[]) (cl:=[]) (ro:=[2]) hE c0z f6z (e5k gg x) ?_
 rewrite [g7t n gg x]
 have fg:=f9k gg hp.2
 have f0:=b8x x
 have f1:=a8h (a2g gg) x.kids
 refine⟨fun a0=>fun a1=>fun a2=>fun a3=>⟨fun a4=>?_,fun a4=>⟨(),⟨?_,⟨⟨rfl,⟨rfl,trivial⟩⟩,trivial⟩⟩⟩⟩,fun u1=>fun a0=>⟨⟨fun a1=>⟨?_,fun a2=>fun a3=>fun a4=>⟨fun a5=>fun a6=>⟨fun a7=>fun a8=>⟨fun a9=>?_,fun a9=>⟨(),⟨?_,⟨⟨rfl,⟨rfl,trivial⟩⟩,trivial⟩⟩⟩⟩,fun a7=>⟨fun a8=>?_,fun a8=>⟨(),⟨?_,⟨⟨rfl,⟨rfl,trivial⟩⟩,trivial⟩⟩⟩⟩⟩,fun a5=>⟨fun a6=>?_,fun a6=>⟨(),⟨?_,⟨⟨rfl,⟨rfl,trivial⟩⟩,trivial⟩⟩⟩⟩⟩⟩,fun a1=>fun a2=>⟨fun a3=>fun a4=>⟨fun a5=>fun a6=>⟨fun a7=>?_,fun a7=>⟨(),⟨?_,⟨⟨rfl,⟨rfl,trivial⟩⟩,trivial⟩⟩⟩⟩,fun a5=>⟨fun a6=>?_,fun a6=>⟨(),⟨?_,⟨⟨rfl,⟨rfl,trivial⟩⟩,trivial⟩⟩⟩⟩⟩,fun a3=>⟨fun a4=>?_,fun a4=>⟨(),⟨?_,⟨⟨rfl,⟨rfl,trivial⟩⟩,trivial⟩⟩⟩⟩⟩⟩,fun u2=>fun a1=>⟨⟨fun a2=>fun a3=>⟨fun a4=>fun a5=>⟨fun a6=>⟨fun a7=>?_,fun a7=>⟨(),⟨?_,⟨⟨rfl,⟨rfl,trivial⟩⟩,trivial⟩⟩⟩⟩,fun a6=>⟨fun a7=>?_,fun a7=>⟨(),⟨?_,⟨⟨rfl,⟨rfl,trivial⟩⟩,trivial⟩⟩⟩⟩⟩,fun a4=>⟨fun a5=>?_,fun a5=>⟨(),⟨?_,⟨⟨rfl,⟨rfl,trivial⟩⟩,trivial⟩⟩⟩⟩⟩,fun a2=>fun a3=>⟨fun a4=>fun a5=>⟨fun a6=>⟨fun a7=>?_,fun a7=>⟨(),⟨?_,⟨⟨rfl,⟨rfl,trivial⟩⟩,trivial⟩⟩⟩⟩,fun a6=>⟨fun a7=>?_,fun a7=>⟨(),⟨?_,⟨⟨rfl,⟨rfl,trivial⟩⟩,trivial⟩⟩⟩⟩⟩,fun a4=>⟨fun a5=>?_,fun a5=>⟨(),⟨?_,⟨⟨rfl,⟨rfl,trivial⟩⟩,trivial⟩⟩⟩⟩⟩⟩,fun u3=>fun a2=>⟨⟨0,⟨?_,⟨⟨rfl,⟨rfl,⟨?_,trivial⟩⟩⟩,trivial⟩⟩⟩,fun k4 a3=>have b3x0:=a3h (a2g gg) zP x.kids k4;have b3x1:=a4c (a2g gg) zP x.kids k4;have b3x2:=a3l (a2g gg) x.kids k4;have b3x3:=a3d zP x.kids k4;fun a4=>fun a5=>⟨fun a6=>⟨?_,fun a7=>⟨?_,⟨fun a8=>?_,fun a8=>⟨?_,⟨k4+1,⟨?_,⟨?_,⟨⟨rfl,⟨rfl,⟨?_,trivial⟩⟩⟩,trivial⟩⟩⟩⟩⟩⟩⟩⟩,fun a6=>?_⟩⟩⟩⟩⟩
 all_goals try and_intros
 all_goals try rw[a7g gg x]
 all_goals first|rfl|trivial|(simp only[decide_eq_true_eq,decide_eq_false_iff_not,a0k,a0c] at *;omega)|((try simp only[b9g,b9p,c0o,e5y] at *);first|rfl|omega|grind [a0k,a0c]|grind [a1x,a0k,a0c])
theorem g3n :∀ n,a0o [b6c n]
 | 0=>⟨⟨a0l c0z rfl (by decide),fun _ _ h=>absurd h.1 (Nat.not_lt_zero _)⟩,trivial⟩
 | n+1=>by
  have ih:=g3n  n
  exact⟨g5z n ⟨ih.1,f7q,c1c,f7o,d4u,f7s,trivial⟩,trivial⟩
theorem f7u :Ctr.Good c3g :=
 ⟨a0l c0z rfl (by decide),fun gg x hp=>(g3n  (msz x+1)).1.2 gg x (⟨Nat.lt_succ_self _,hp⟩)⟩
def a5e:Ctr:=⟨d3u,[.v (.st .sig), .v (.st .prog)],fun (gg:a0h) (x:a0d)=>⟨(some (a1i gg=true),[⟨.bool,isP gg x⟩])⟩⟩
def e9r(gg:a0h)(x:a0d):Nat→a0p:=fun _ => .none
theorem g9u(gg:a0h)(x:a0d):awp (a0r [c1i] [] [] [2,3]) (a0j b4s) (e9r gg x) 0 (a1c (a0r [c1i] [] [] [2,3]) b4s fun r=>a1f r [⟨.bool,isP gg x⟩]) (a0m b4s [.val ⟨(.st .sig),gg⟩, .val ⟨(.st .prog),x⟩]) =
 (((a1i gg=true∧0≤(60:Int)∧(60:Int)≤1048576∧0≤(20:Int)∧(20:Int)≤1048576)∧(a0c (b8s gg x (60:Int) (20:Int)) →
 (b2b gg x (60:Int) (20:Int))=(isP gg x)))):=by kernel_rfl
theorem g8v(hE:a0o [c1i]):Ctr.Good a5e:=by
 refine⟨a0l e3f rfl (by decide),?_⟩
 show ∀ (gg:a0h) (x:a0d),(a1i gg=true)→a1e prog d3u [.val ⟨(.st .sig),gg⟩, .val ⟨(.st .prog),x⟩] (·=[⟨.bool,isP gg x⟩])
 intro gg x hp
 refine a0w (wr:=[]) (cl:=[]) (ro:=[2,3]) hE e3f g0e (e9r gg x) ?_
 rewrite [g9u gg x]
 refine⟨?_,fun a0=>?_⟩
 all_goals try and_intros
 all_goals first|rfl|trivial|omega|(simp only[decide_eq_true_eq,decide_eq_false_iff_not,a0k,a0c,a2k,a8i,a5r,a1p] at *;omega)|(simp[a0k,a0c] at *;omega)|grind
theorem c5v:Ctr.Good a5e:=g8v ⟨f2z,trivial⟩
def b3n:Ctr:=⟨c6b,[.v (.st .sig), .v (.st .prog)],fun (gg:a0h) (x:a0d)=>⟨(none,[⟨.bool,okP gg x⟩])⟩⟩
def d8h(gg:a0h)(x:a0d):Nat→a0p:=fun _ => .none
theorem f8k(gg:a0h)(x:a0d):awp (a0r [a3g,a5e] [] [] [2,3]) (a0j a9s) (d8h gg x) 0 (a1c (a0r [a3g,a5e] [] [] [2,3]) a9s fun r=>a1f r [⟨.bool,okP gg x⟩]) (a0m a9s [.val ⟨(.st .sig),gg⟩, .val ⟨(.st .prog),x⟩]) =
 ((((a1i gg)=true →
 (a1i gg=true∧(isP gg x)=(okP gg x)))∧((a1i gg)=(!true) →
 false=(okP gg x)))):=by kernel_rfl
theorem f7z(hE:a0o [a3g,a5e]):Ctr.Good b3n:=by
 refine⟨a0l d4j rfl (by decide),?_⟩
 show ∀ (gg:a0h) (x:a0d),True→a1e prog c6b [.val ⟨(.st .sig),gg⟩, .val ⟨(.st .prog),x⟩] (·=[⟨.bool,okP gg x⟩])
 intro gg x _
 refine a0w (wr:=[]) (cl:=[]) (ro:=[2,3]) hE d4j f0m (d8h gg x) ?_
 rewrite [f8k gg x]
 refine⟨fun a0=>⟨?_,?_⟩,fun a0=>?_⟩
 all_goals try and_intros
 all_goals first|rfl|trivial|grind [okP]
theorem f0v:Ctr.Good b3n:=f7z ⟨b5o,c5v,trivial⟩
def b0p:Ctr:=⟨d8x,[.v (.st .sig), .r (.st .prog)],fun (gg:a0h) (x:a0d)=>⟨(none,[⟨.bool,okP gg x⟩])⟩⟩
def f3t(gg:a0h)(x:a0d):Nat→a0p:=fun _ => .none
abbrev e4o(gg:a0h)(x:a0d):Prop:=(a2i x≤1048576∧(a0c ((a2i x:Int)) →
 (((decide (((a2i x:Int))≤(20:Int)))=true →
 (a1i gg=true∧(a2g gg x)=(okP gg x)))∧((decide (((a2i x:Int))≤(20:Int)))=(!true) →
 false=(okP gg x)))))
theorem h2t(gg:a0h)(x:a0d):awp (a0r [a9e,c3f,c1k,c3g] [] [] [2]) (a0j b7o) (f3t gg x) 0 (a1c (a0r [a9e,c3f,c1k,c3g] [] [] [2]) b7o fun r=>a1f r [⟨.bool,okP gg x⟩]) (a0m b7o [.val ⟨(.st .sig),gg⟩, .ref ⟨(.st .prog),x⟩]) =
 ((((a1i gg)=true →
 ((0≤(60:Int)∧(60:Int)≤1048576)∧(a0c (szR (a1r x) (60:Int)) →
 (((decide ((0:Int)≤(szR (a1r x) (60:Int))))=true →
 (e4o gg x))∧((decide ((0:Int)≤(szR (a1r x) (60:Int))))=(!true) →
 ((false=true →
 (a1i gg=true∧(a2g gg x)=(okP gg x)))∧(false=(!true) →
 false=(okP gg x))))))))∧((a1i gg)=(!true) →
 ((false=true →
 (e4o gg x))∧(false=(!true) →
 ((false=true →
 (a1i gg=true∧(a2g gg x)=(okP gg x)))∧(false=(!true) →
 false=(okP gg x)))))))):=by kernel_rfl
theorem h2i(hE:a0o [a9e,c3f,c1k,c3g]):Ctr.Good b0p:=by
 refine⟨a0l e9i rfl (by decide),?_⟩
 show ∀ (gg:a0h) (x:a0d),True→a1e prog d8x [.val ⟨(.st .sig),gg⟩, .ref ⟨(.st .prog),x⟩] (·=[⟨.bool,okP gg x⟩])
 intro gg x _
 refine a0w (wr:=[]) (cl:=[]) (ro:=[2]) hE e9i g4f (f3t gg x) ?_
 rewrite [h2t gg x]
 have f1:=c0d (a1r x) 60
 have f2:=f2p x
 have f3:okP gg x=(a1i gg&&(a2g gg x&&decide ((a1r x:Int)≤60)&&decide ((a2i x:Int)≤20))):=rfl
 refine⟨fun a0=>⟨?_,fun a1=>⟨fun a2=>⟨?_,fun a3=>⟨fun a4=>⟨?_,?_⟩,fun a4=>?_⟩⟩,fun a2=>⟨fun a3=>⟨?_,?_⟩,fun a3=>?_⟩⟩⟩,fun a0=>⟨fun a1=>⟨?_,fun a2=>⟨fun a3=>⟨?_,?_⟩,fun a3=>?_⟩⟩,fun a1=>⟨fun a2=>⟨?_,?_⟩,fun a2=>?_⟩⟩⟩
 all_goals try and_intros
 all_goals try rw[f3]
 all_goals first|rfl|trivial|omega|(simp only[decide_eq_true_eq,decide_eq_false_iff_not,Bool.not_eq_true',Bool.not_eq_false'] at *;omega)|grind
theorem e0o:Ctr.Good b0p:=h2i ⟨d7u,f7r,f3e,f7u,trivial⟩
end
end Go.Proofs.YthebhlkdppmefaaGreat

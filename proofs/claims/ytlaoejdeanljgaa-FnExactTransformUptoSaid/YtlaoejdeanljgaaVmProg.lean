/- Programs: their form. Printed by vmk.py. -/
import Derived.Test.YtlaoejdeanljgaaVmUse
import Derived.Test.YtlaoejdeanljgaaVmLib
import Derived.Test.YtlaoejdeanljgaaVmShaped
import Derived.Test.YtlaoejdeanljgaaVmValid
set_option linter.unusedVariables false
set_option linter.unusedSimpArgs false
set_option linter.unusedSectionVars false
set_option maxRecDepth 4000
set_option maxHeartbeats 4000000
namespace Go.Proofs.Ytlaoejdeanljgaa
noncomputable section
mutual
def a1j:a0a→Nat
 | ⟨_,_,_,ks⟩=>1+c3j ks
def c3j:List a0a→Nat
 | []=>0
 | k::ks=>a1j k+c3j ks
end
theorem f4l:∀ xs,c3j xs=szL a1j xs
 | []=>rfl
 | x::xs=>by rw[c3j,szL,f4l xs]
theorem f9y(x:a0a):a1j x=1+szL a1j x.kids:=by
 cases x;simp[a1j,f4l]
mutual
def a2b:a0a→Nat
 | ⟨_,_,_,ks⟩=>1+c4z ks
def c4z:List a0a→Nat
 | []=>0
 | k::ks=>max (a2b k) (c4z ks)
end
theorem f3t:∀ xs,c4z xs=a3p a2b xs
 | []=>rfl
 | x::xs=>by rw[c4z,a3p,f3t xs]
theorem e2l(x:a0a):a2b x=1+a3p a2b x.kids:=by
 cases x;simp[a2b,f3t]
mutual
theorem e2m:∀ x:a0a,a2b x≤a1j x
 | ⟨k,n,c,ks⟩=>by
  have:=d9f ks
  simp only[a2b,a1j];omega
theorem d9f:∀ xs:List a0a,c4z xs≤c3j xs
 | []=>by simp[c4z]
 | x::xs=>by
  have h1:=e2m x
  have h2:=d9f xs
  simp only[c4z,c3j];omega
end
def a1u(k:Int):Int:=if k=1∨k=2∨k=3∨k=4 then 0 else if k=7 then 1 else if k=5∨k=6 then 2 else -1
def a3y(k:Int):Bool:=decide (k=4)||decide (k=6)||decide (k=7)
def a6t(x:a0c):Bool:=decide (x.kind=0)&&decide (x.num=0)&&decide (x.kids.length=0)
def d1y(gg:a0v)(x:a0a):Bool:=if x.kind=3 then decide (0≤x.num∧x.num≤gg.actions - 1) else decide (x.num=0)
def d7t(gg:a0v)(x:a0a):Bool:=if a3y x.kind=true then isC gg x.cond else a6t x.cond
def c1s(gg:a0v)(x:a0a):Bool:=decide (a1u x.kind=(x.kids.length:Int))&&d1y gg x&&d7t gg x
mutual
def a2m(gg:a0v):a0a→Bool
 | ⟨k,n,c,ks⟩=>c1s gg ⟨k,n,c,ks⟩&&f5u gg ks
def f5u(gg:a0v):List a0a→Bool
 | []=>true
 | k::ks=>a2m gg k&&f5u gg ks
end
theorem g0n(gg:a0v):∀ xs,f5u gg xs=a2t (a2m gg) xs
 | []=>rfl
 | x::xs=>by rw[f5u,a2t,g0n gg xs]
theorem d8r(gg:a0v)(x:a0a):a2m gg x=(c1s gg x&&a2t (a2m gg) x.kids):=by
 cases x;simp[a2m,g0n]
theorem d8b(gg:a0v)(x:a0a):c1s gg x=(decide (a1u x.kind=(x.kids.length:Int))&&d1y gg x&&d7t gg x):=rfl
def b0z(gg:a0v)(x:a0a)(nodes depth:Int):Bool:=a2m gg x&&decide ((a1j x:Int)≤nodes)&&decide ((a2b x:Int)≤depth)
def b5v(gg:a0v)(x:a0a)(nodes depth:Int):Int:=bif b0z gg x nodes depth then nodes - a1j x else 0
theorem f5p(gg:a0v)(x:a0a)(nodes depth:Int) :
  (a2m gg x=true∧(a1j x:Int)≤nodes∧(a2b x:Int)≤depth∧b0z gg x nodes depth=true∧b5v gg x nodes depth=nodes - a1j x) ∨
  ((a2m gg x=false∨nodes<(a1j x:Int)∨depth<(a2b x:Int))∧b0z gg x nodes depth=false∧b5v gg x nodes depth=0):=by
 unfold b5v b0z
 cases a2m gg x
 ·right;simp
 ·rcases Int.lt_or_le nodes (a1j x) with h|h
  ·right;simp[h,Int.not_le.2 h]
  ·rcases Int.lt_or_le depth (a2b x) with h'|h'
   ·right;simp[h',Int.not_le.2 h']
   ·left;simp[h,h']
def isP(gg:a0v)(x:a0a):Bool:=b0z gg x 60 20
def okP(gg:a0v)(x:a0a):Bool:=a2r gg&&isP gg x
theorem h0h(gg:a0v)(x:a0c):okC gg x=(a2r gg&&isC gg x):=by simp[okC,okE,isC,Bool.and_assoc]
theorem e8r(gg:a0v)(h:a2r gg=true):(0≤gg.tests∧gg.tests≤3)∧0≤gg.actions∧gg.actions≤4:=(g7z gg).1 h
def b7j:Ctr:=⟨c7l,[.v (.st .expr)],fun (x:a0c)=>⟨(none,[⟨.bool,a6t x⟩])⟩⟩
def d9l(x:a0c):Nat→a0s:=fun _ => .none
theorem f8l(x:a0c):awp (a0u [] [] [] [1]) (a0k b1j) (d9l x) 0 (a1b (a0u [] [] [] [1]) b1j fun r=>a1d r [⟨.bool,a6t x⟩]) (a0p b1j [.val ⟨(.st .expr),x⟩]) =
 ((a0d x.kind →
 (((decide (x.kind=(0:Int)))=true →
 (a0d x.num →
 (((decide (x.num=(0:Int)))=true →
 (x.kids.length≤140737488355328 →
 (a0d ((x.kids.length:Int)) →
 (decide (((x.kids.length:Int))=(0:Int)))=(a6t x))))∧((decide (x.num=(0:Int)))=(!true) →
 false=(a6t x)))))∧((decide (x.kind=(0:Int)))=(!true) →
 ((false=true →
 (x.kids.length≤140737488355328 →
 (a0d ((x.kids.length:Int)) →
 (decide (((x.kids.length:Int))=(0:Int)))=(a6t x))))∧(false=(!true) →
 false=(a6t x))))))):=by kernel_rfl
theorem f7p(hE:a0m []):Ctr.Good b7j:=by
 refine⟨a0j d5c rfl (by decide),?_⟩
 show ∀ (x:a0c),True→a0z prog c7l [.val ⟨(.st .expr),x⟩] (·=[⟨.bool,a6t x⟩])
 intro x _
 refine a0x (wr:=[]) (cl:=[]) (ro:=[1]) hE d5c e9a (d9l x) ?_
 rewrite [f8l x]
 refine fun a0=>⟨fun a1=>fun a2=>⟨fun a3=>fun a4=>fun a5=>?_,fun a3=>?_⟩,fun a1=>⟨fun a2=>fun a3=>fun a4=>?_,fun a2=>?_⟩⟩
 all_goals try and_intros
 all_goals first|rfl|trivial|grind [a6t]
theorem f0d:Ctr.Good b7j:=f7p trivial
def b5i:Ctr:=⟨c5n,[.r (.st .expr)],fun (x:a0c)=>⟨(none,[⟨.bool,a6t x⟩])⟩⟩
def d6m(x:a0c):Nat→a0s:=fun _ => .none
theorem f6j(x:a0c):awp (a0u []) (a0k b0c) (d6m x) 0 (a1b (a0u []) b0c fun r=>a1d r [⟨.bool,a6t x⟩]) (a0p b0c [.ref ⟨(.st .expr),x⟩]) =
 ((a0d x.kind →
 (((decide (x.kind=(0:Int)))=true →
 (a0d x.num →
 (((decide (x.num=(0:Int)))=true →
 (x.kids.length≤140737488355328 →
 (a0d ((x.kids.length:Int)) →
 (decide (((x.kids.length:Int))=(0:Int)))=(a6t x))))∧((decide (x.num=(0:Int)))=(!true) →
 false=(a6t x)))))∧((decide (x.kind=(0:Int)))=(!true) →
 ((false=true →
 (x.kids.length≤140737488355328 →
 (a0d ((x.kids.length:Int)) →
 (decide (((x.kids.length:Int))=(0:Int)))=(a6t x))))∧(false=(!true) →
 false=(a6t x))))))):=by kernel_rfl
theorem f5b(hE:a0m []):Ctr.Good b5i:=by
 refine⟨a0j d2r rfl (by decide),?_⟩
 show ∀ (x:a0c),True→a0z prog c5n [.ref ⟨(.st .expr),x⟩] (·=[⟨.bool,a6t x⟩])
 intro x _
 refine a0x (wr:=[]) (cl:=[]) (ro:=[]) hE d2r e6c (d6m x) ?_
 rewrite [f6j x]
 refine fun a0=>⟨fun a1=>fun a2=>⟨fun a3=>fun a4=>fun a5=>?_,fun a3=>?_⟩,fun a1=>⟨fun a2=>fun a3=>fun a4=>?_,fun a2=>?_⟩⟩
 all_goals try and_intros
 all_goals first|rfl|trivial|grind [a6t]
theorem e6o:Ctr.Good b5i:=f5b trivial
def b2q:Ctr:=⟨c4b,[.v (.int .i64)],fun (k:Int)=>⟨(none,[⟨(.int .i64),a1u k⟩,⟨.bool,a3y k⟩])⟩⟩
def d3h(k:Int):Nat→a0s:=fun _ => .none
abbrev c1b(k:Int):Prop:=(((decide (k=(4:Int)))=true →
 ((0:Int)=(a1u k)∧true=(a3y k)))∧((decide (k=(4:Int)))=false →
 (((decide (k=(5:Int)))=true →
 ((2:Int)=(a1u k)∧false=(a3y k)))∧((decide (k=(5:Int)))=false →
 (((decide (k=(6:Int)))=true →
 ((2:Int)=(a1u k)∧true=(a3y k)))∧((decide (k=(6:Int)))=false →
 (((decide (k=(7:Int)))=true →
 ((1:Int)=(a1u k)∧true=(a3y k)))∧((decide (k=(7:Int)))=false →
 ((-1:Int)=(a1u k)∧false=(a3y k))))))))))
theorem f1v(k:Int):awp (a0u []) (a0k a8i) (d3h k) 0 (a1b (a0u []) a8i fun r=>a1d r [⟨(.int .i64),a1u k⟩,⟨.bool,a3y k⟩]) (a0p a8i [.val ⟨(.int .i64),k⟩]) =
 ((((decide (k=(1:Int)))=true →
 (((decide (k=(1:Int)))=true →
 ((0:Int)=(a1u k)∧false=(a3y k)))∧((decide (k=(1:Int)))=false →
 (c1b k))))∧((decide (k=(1:Int)))=false →
 (((decide (k=(2:Int)))=true →
 (((decide (k=(2:Int)))=true →
 ((0:Int)=(a1u k)∧false=(a3y k)))∧((decide (k=(2:Int)))=false →
 (c1b k))))∧((decide (k=(2:Int)))=false →
 (((decide (k=(3:Int)))=true →
 ((0:Int)=(a1u k)∧false=(a3y k)))∧((decide (k=(3:Int)))=false →
 (c1b k)))))))):=by kernel_rfl
theorem f1b(hE:a0m []):Ctr.Good b2q:=by
 refine⟨a0j c9y rfl (by decide),?_⟩
 show ∀ (k:Int),True→a0z prog c4b [.val ⟨(.int .i64),k⟩] (·=[⟨(.int .i64),a1u k⟩,⟨.bool,a3y k⟩])
 intro k _
 refine a0x (wr:=[]) (cl:=[]) (ro:=[]) hE c9y e1u (d3h k) ?_
 rewrite [f1v k]
 refine⟨fun a0=>⟨fun a1=>⟨?_,?_⟩,fun a1=>⟨fun a2=>⟨?_,?_⟩,fun a2=>⟨fun a3=>⟨?_,?_⟩,fun a3=>⟨fun a4=>⟨?_,?_⟩,fun a4=>⟨fun a5=>⟨?_,?_⟩,fun a5=>⟨?_,?_⟩⟩⟩⟩⟩⟩,fun a0=>⟨fun a1=>⟨fun a2=>⟨?_,?_⟩,fun a2=>⟨fun a3=>⟨?_,?_⟩,fun a3=>⟨fun a4=>⟨?_,?_⟩,fun a4=>⟨fun a5=>⟨?_,?_⟩,fun a5=>⟨fun a6=>⟨?_,?_⟩,fun a6=>⟨?_,?_⟩⟩⟩⟩⟩⟩,fun a1=>⟨fun a2=>⟨?_,?_⟩,fun a2=>⟨fun a3=>⟨?_,?_⟩,fun a3=>⟨fun a4=>⟨?_,?_⟩,fun a4=>⟨fun a5=>⟨?_,?_⟩,fun a5=>⟨fun a6=>⟨?_,?_⟩,fun a6=>⟨?_,?_⟩⟩⟩⟩⟩⟩⟩⟩
 all_goals try and_intros
 all_goals first|rfl|trivial|grind [a1u,a3y]
theorem e2y:Ctr.Good b2q:=f1b trivial
def b5h:Ctr:=⟨c5m,[.v (.int .i64)],fun (k:Int)=>⟨(none,[⟨(.int .i64),a1u k⟩])⟩⟩
def d6k(k:Int):Nat→a0s:=fun _ => .none
abbrev b6q(k:Int):Prop:=(((decide (k=(7:Int)))=true →
 (1:Int)=(a1u k))∧((decide (k=(7:Int)))=false →
 (((decide (k=(5:Int)))=true →
 (((decide (k=(5:Int)))=true →
 (2:Int)=(a1u k))∧((decide (k=(5:Int)))=false →
 (-1:Int)=(a1u k))))∧((decide (k=(5:Int)))=false →
 (((decide (k=(6:Int)))=true →
 (2:Int)=(a1u k))∧((decide (k=(6:Int)))=false →
 (-1:Int)=(a1u k)))))))
theorem f6h(k:Int):awp (a0u []) (a0k b0a) (d6k k) 0 (a1b (a0u []) b0a fun r=>a1d r [⟨(.int .i64),a1u k⟩]) (a0p b0a [.val ⟨(.int .i64),k⟩]) =
 ((((decide (k=(1:Int)))=true →
 (((decide (k=(1:Int)))=true →
 (0:Int)=(a1u k))∧((decide (k=(1:Int)))=false →
 (b6q k))))∧((decide (k=(1:Int)))=false →
 (((decide (k=(2:Int)))=true →
 (((decide (k=(2:Int)))=true →
 (0:Int)=(a1u k))∧((decide (k=(2:Int)))=false →
 (b6q k))))∧((decide (k=(2:Int)))=false →
 (((decide (k=(3:Int)))=true →
 (((decide (k=(3:Int)))=true →
 (0:Int)=(a1u k))∧((decide (k=(3:Int)))=false →
 (b6q k))))∧((decide (k=(3:Int)))=false →
 (((decide (k=(4:Int)))=true →
 (0:Int)=(a1u k))∧((decide (k=(4:Int)))=false →
 (b6q k)))))))))):=by kernel_rfl
theorem f4z(hE:a0m []):Ctr.Good b5h:=by
 refine⟨a0j d2q rfl (by decide),?_⟩
 show ∀ (k:Int),True→a0z prog c5m [.val ⟨(.int .i64),k⟩] (·=[⟨(.int .i64),a1u k⟩])
 intro k _
 refine a0x (wr:=[]) (cl:=[]) (ro:=[]) hE d2q e6a (d6k k) ?_
 rewrite [f6h k]
 refine⟨fun a0=>⟨fun a1=>?_,fun a1=>⟨fun a2=>?_,fun a2=>⟨fun a3=>⟨fun a4=>?_,fun a4=>?_⟩,fun a3=>⟨fun a4=>?_,fun a4=>?_⟩⟩⟩⟩,fun a0=>⟨fun a1=>⟨fun a2=>?_,fun a2=>⟨fun a3=>?_,fun a3=>⟨fun a4=>⟨fun a5=>?_,fun a5=>?_⟩,fun a4=>⟨fun a5=>?_,fun a5=>?_⟩⟩⟩⟩,fun a1=>⟨fun a2=>⟨fun a3=>?_,fun a3=>⟨fun a4=>?_,fun a4=>⟨fun a5=>⟨fun a6=>?_,fun a6=>?_⟩,fun a5=>⟨fun a6=>?_,fun a6=>?_⟩⟩⟩⟩,fun a2=>⟨fun a3=>?_,fun a3=>⟨fun a4=>?_,fun a4=>⟨fun a5=>⟨fun a6=>?_,fun a6=>?_⟩,fun a5=>⟨fun a6=>?_,fun a6=>?_⟩⟩⟩⟩⟩⟩⟩
 all_goals try and_intros
 all_goals first|rfl|trivial|grind [a1u]
theorem e6m:Ctr.Good b5h:=f4z trivial
def b5f:Ctr:=⟨c5k,[.v (.int .i64)],fun (k:Int)=>⟨(none,[⟨.bool,a3y k⟩])⟩⟩
def d6i(k:Int):Nat→a0s:=fun _ => .none
theorem f6f(k:Int):awp (a0u []) (a0k a9y) (d6i k) 0 (a1b (a0u []) a9y fun r=>a1d r [⟨.bool,a3y k⟩]) (a0p a9y [.val ⟨(.int .i64),k⟩]) =
 ((((decide (k=(4:Int)))=false →
 (((decide (k=(6:Int)))=false →
 (decide (k=(7:Int)))=(a3y k))∧((decide (k=(6:Int)))=(!false) →
 true=(a3y k))))∧((decide (k=(4:Int)))=(!false) →
 ((true=false →
 (decide (k=(7:Int)))=(a3y k))∧(true=(!false) →
 true=(a3y k)))))):=by kernel_rfl
theorem f4x(hE:a0m []):Ctr.Good b5f:=by
 refine⟨a0j d2o rfl (by decide),?_⟩
 show ∀ (k:Int),True→a0z prog c5k [.val ⟨(.int .i64),k⟩] (·=[⟨.bool,a3y k⟩])
 intro k _
 refine a0x (wr:=[]) (cl:=[]) (ro:=[]) hE d2o e5y (d6i k) ?_
 rewrite [f6f k]
 refine⟨fun a0=>⟨fun a1=>?_,fun a1=>?_⟩,fun a0=>⟨fun a1=>?_,fun a1=>?_⟩⟩
 all_goals try and_intros
 all_goals first|rfl|trivial|grind [a3y]
theorem e6k:Ctr.Good b5f:=f4x trivial
def b3f(n:Nat):Ctr:=⟨c0k,[.r (.st .prog), .v (.int .i64)],fun (x:a0a) (left:Int)=>⟨(some (msz x<n∧0≤left∧left≤1048576),[⟨(.int .i64),szR (a1j x) left⟩])⟩⟩
def c0b:Ctr:=⟨c0k,[.r (.st .prog), .v (.int .i64)],fun (x:a0a) (left:Int)=>⟨(some (0≤left∧left≤1048576),[⟨(.int .i64),szR (a1j x) left⟩])⟩⟩
def d6l(x:a0a)(left:Int):Nat→a0s:=(fun zb=>if Nat.beq zb 0 then .mk (Nat) (fun k=>k≤x.kids.length) (fun k=>x.kids.length - k) [] [2,3,6,7] (fun k=>[(5, .imm ⟨(.int .i64),((k:Int):Int)⟩),(1, .imm ⟨(.int .i64),(szR (1+szL a1j (x.kids.take k)) left:Int)⟩)]) [0,1,4,5,8,9,10,11,12,13,14,15,16,17,18,19,20,21,22,23,24,25,26,27,28,29] (fun k=>[]) [] [] (fun k=>fun _ => .none) else .none)
abbrev d1a(n:Nat)(x:a0a)(left:Int)(k1:Nat):Prop:=(x.kids.length≤140737488355328 →
 (a0g (k1:Int) x.kids.length∧((msz (x.kids.getD k1 zP)<n∧0≤(szR (1+szL a1j (x.kids.take k1)) left)∧(szR (1+szL a1j (x.kids.take k1)) left)≤1048576)∧(a0d (szR (a1j (x.kids.getD k1 zP)) (szR (1+szL a1j (x.kids.take k1)) left)) →
 (a0d ((k1:Int)+(1:Int))∧(∃ k2:Nat,(k2≤x.kids.length∧(x.kids.length - k2<x.kids.length - k1∧((x=x∧((szR (a1j (x.kids.getD k1 zP)) (szR (1+szL a1j (x.kids.take k1)) left))=(szR (1+szL a1j (x.kids.take k2)) left)∧((0:Int)=(0:Int)∧(((k1:Int)+(1:Int))=(k2:Int)∧True))))∧True)))))))))
theorem f6i(n:Nat)(x:a0a)(left:Int):awp (a0u [b3f n]) (a0k b0b) (d6l x left) 0 (a1b (a0u [b3f n]) b0b fun r=>a1d r [⟨(.int .i64),szR (a1j x) left⟩]) (a0p b0b [.ref ⟨(.st .prog),x⟩, .val ⟨(.int .i64),left⟩]) =
 ((a0d (left - (1:Int))∧((∃ k1:Nat,(k1≤x.kids.length∧((x=x∧((left - (1:Int))=(szR (1+szL a1j (x.kids.take k1)) left)∧((0:Int)=(0:Int)∧((0:Int)=(k1:Int)∧True))))∧True)))∧(∀ k1:Nat,(k1≤x.kids.length →
 (x.kids.length≤140737488355328 →
 (a0d ((x.kids.length:Int)) →
 (((decide ((k1:Int)<((x.kids.length:Int))))=true →
 (((decide ((0:Int)≤(szR (1+szL a1j (x.kids.take k1)) left)))=true →
 (d1a n x left k1))∧((decide ((0:Int)≤(szR (1+szL a1j (x.kids.take k1)) left)))=false →
 (szR (1+szL a1j (x.kids.take k1)) left)=(szR (a1j x) left))))∧((decide ((k1:Int)<((x.kids.length:Int))))=(!true) →
 ((false=true →
 (d1a n x left k1))∧(false=false →
 (szR (1+szL a1j (x.kids.take k1)) left)=(szR (a1j x) left)))))))))))):=by kernel_rfl
theorem f5a(n:Nat)(hE:a0m [b3f n]):Ctr.Good (b3f (n+1)):=by
 refine⟨a0j b7z rfl (by decide),?_⟩
 show ∀ (x:a0a) (left:Int),(msz x<n+1∧0≤left∧left≤1048576)→a0z prog c0k [.ref ⟨(.st .prog),x⟩, .val ⟨(.int .i64),left⟩] (·=[⟨(.int .i64),szR (a1j x) left⟩])
 intro x left hp
 refine a0x (wr:=[]) (cl:=[]) (ro:=[]) hE b7z e6b (d6l x left) ?_
 rewrite [f6i n x left]
 have f0:=a5q x
 have f1:=b4c a1j x.kids
 have f2:=a5k (1+szL a1j (x.kids.take 0)) left
 refine⟨?_,⟨⟨0,⟨?_,⟨⟨rfl,⟨?_,⟨rfl,⟨?_,trivial⟩⟩⟩⟩,trivial⟩⟩⟩,fun k1 a0=>have b0x0:=a6v a1j zP x.kids k1;have b0x1:=a2l a1j x.kids k1;have b0x2:=a2l a1j x.kids (k1+1);have b0x3:=b0h a1j x.kids k1;have b0x4:=a1i zP x.kids k1;have b0x5:=a5k (1+szL a1j (x.kids.take k1)) left;have b0x6:=a5k (1+szL a1j (x.kids.take (k1+1))) left;have b0x7:=a5k (a1j (x.kids.getD k1 zP)) (szR (1+szL a1j (x.kids.take k1)) left);have b0x8:=a5k (1+szL a1j x.kids) left;fun a1=>fun a2=>⟨fun a3=>⟨fun a4=>fun a5=>⟨?_,⟨?_,fun a6=>⟨?_,⟨k1+1,⟨?_,⟨?_,⟨⟨rfl,⟨?_,⟨rfl,⟨?_,trivial⟩⟩⟩⟩,trivial⟩⟩⟩⟩⟩⟩⟩,fun a4=>?_⟩,fun a3=>⟨fun a4=>fun a5=>⟨?_,⟨?_,fun a6=>⟨?_,⟨k1+1,⟨?_,⟨?_,⟨⟨rfl,⟨?_,⟨rfl,⟨?_,trivial⟩⟩⟩⟩,trivial⟩⟩⟩⟩⟩⟩⟩,fun a4=>?_⟩⟩⟩⟩
 all_goals try and_intros
 all_goals try rw[f9y x]
 all_goals first|rfl|trivial|omega|(simp only[decide_eq_true_eq,decide_eq_false_iff_not,a0g,a0d,a1z,a2w,a1w,a1x] at *;omega)|(simp[a0g,a0d] at *;omega)|grind
theorem f2n :∀ n,a0m [b3f n]
 | 0=>⟨⟨a0j b7z rfl (by decide),fun _ _ h=>absurd h.1 (Nat.not_lt_zero _)⟩,trivial⟩
 | n+1=>by
  have ih:=f2n  n
  exact⟨f5a n ⟨ih.1,trivial⟩,trivial⟩
theorem e6n :Ctr.Good c0b :=
 ⟨a0j b7z rfl (by decide),fun x left hp=>(f2n  (msz x+1)).1.2 x left (⟨Nat.lt_succ_self _,hp⟩)⟩
def b0t(n:Nat):Ctr:=⟨b8v,[.r (.st .prog)],fun (x:a0a)=>⟨(some (msz x<n∧a2b x≤1048576),[⟨(.int .i64),(a2b x:Int)⟩])⟩⟩
def b8p:Ctr:=⟨b8v,[.r (.st .prog)],fun (x:a0a)=>⟨(some (a2b x≤1048576),[⟨(.int .i64),(a2b x:Int)⟩])⟩⟩
def d3o(x:a0a):Nat→a0s:=(fun zb=>if Nat.beq zb 0 then .mk (Nat) (fun k=>k≤x.kids.length) (fun k=>x.kids.length - k) [] [1] (fun k=>[(4, .imm ⟨(.int .i64),((k:Int):Int)⟩),(3, .imm ⟨(.int .i64),((a3p a2b (x.kids.take k):Int):Int)⟩)]) [0,2,3,4,5,6,7,8,9,10,11,12,13,14,15,16,17,18,19,20,21,22,23,24] (fun k=>[]) [] [] (fun k=>fun _ => .none) else .none)
theorem f2c(n:Nat)(x:a0a):awp (a0u [b0t n,a7a]) (a0k a8o) (d3o x) 0 (a1b (a0u [b0t n,a7a]) a8o fun r=>a1d r [⟨(.int .i64),(a2b x:Int)⟩]) (a0p a8o [.ref ⟨(.st .prog),x⟩]) =
 (((∃ k1:Nat,(k1≤x.kids.length∧((x=x∧((0:Int)=(0:Int)∧((0:Int)=(a3p a2b (x.kids.take k1):Int)∧((0:Int)=(k1:Int)∧True))))∧True)))∧(∀ k1:Nat,(k1≤x.kids.length →
 (x.kids.length≤140737488355328 →
 (a0d ((x.kids.length:Int)) →
 (((decide ((k1:Int)<((x.kids.length:Int))))=true →
 (x.kids.length≤140737488355328 →
 (a0g (k1:Int) x.kids.length∧((msz (x.kids.getD k1 zP)<n∧a2b (x.kids.getD k1 zP)≤1048576)∧(a0d ((a2b (x.kids.getD k1 zP):Int)) →
 (a0d (max (a3p a2b (x.kids.take k1):Int) ((a2b (x.kids.getD k1 zP):Int))) →
 (a0d ((k1:Int)+(1:Int))∧(∃ k2:Nat,(k2≤x.kids.length∧(x.kids.length - k2<x.kids.length - k1∧((x=x∧((0:Int)=(0:Int)∧((max (a3p a2b (x.kids.take k1):Int) ((a2b (x.kids.getD k1 zP):Int)))=(a3p a2b (x.kids.take k2):Int)∧(((k1:Int)+(1:Int))=(k2:Int)∧True))))∧True)))))))))))∧((decide ((k1:Int)<((x.kids.length:Int))))=false →
 (a0d ((a3p a2b (x.kids.take k1):Int)+(1:Int))∧((a3p a2b (x.kids.take k1):Int)+(1:Int))=(a2b x:Int)))))))))):=by kernel_rfl
theorem f1i(n:Nat)(hE:a0m [b0t n,a7a]):Ctr.Good (b0t (n+1)):=by
 refine⟨a0j b6j rfl (by decide),?_⟩
 show ∀ (x:a0a),(msz x<n+1∧a2b x≤1048576)→a0z prog b8v [.ref ⟨(.st .prog),x⟩] (·=[⟨(.int .i64),(a2b x:Int)⟩])
 intro x hp
 refine a0x (wr:=[]) (cl:=[]) (ro:=[]) hE b6j e2c (d3o x) ?_
 rewrite [f2c n x]
 rw[e2l x] at hp
 have f0:=a5q x
 have f1:=d3w a2b x.kids
 refine⟨⟨0,⟨?_,⟨⟨rfl,⟨rfl,⟨?_,⟨?_,trivial⟩⟩⟩⟩,trivial⟩⟩⟩,fun k1 a0=>have b0x0:=b5y a2b zP x.kids k1;have b0x1:=a5x a2b x.kids k1;have b0x2:=a5x a2b x.kids (k1+1);have b0x3:=c2r a2b x.kids k1;have b0x4:=a1i zP x.kids k1;have b0x5:=e3w a2b zP x.kids k1;fun a1=>fun a2=>⟨fun a3=>fun a4=>⟨?_,⟨?_,fun a5=>fun a6=>⟨?_,⟨k1+1,⟨?_,⟨?_,⟨⟨rfl,⟨rfl,⟨?_,⟨?_,trivial⟩⟩⟩⟩,trivial⟩⟩⟩⟩⟩⟩⟩,fun a3=>⟨?_,?_⟩⟩⟩
 all_goals try and_intros
 all_goals try rw[e2l x]
 all_goals first|rfl|trivial|omega|(simp only[decide_eq_true_eq,decide_eq_false_iff_not,a0g,a0d,a1z,a2w,a1w,a1x] at *;omega)|(simp[a0g,a0d] at *;omega)|grind
theorem e7r :∀ n,a0m [b0t n]
 | 0=>⟨⟨a0j b6j rfl (by decide),fun _ h=>absurd h.1 (Nat.not_lt_zero _)⟩,trivial⟩
 | n+1=>by
  have ih:=e7r  n
  exact⟨f1i n ⟨ih.1,d0u,trivial⟩,trivial⟩
theorem e3f :Ctr.Good b8p :=
 ⟨a0j b6j rfl (by decide),fun x hp=>(e7r  (msz x+1)).1.2 x (⟨Nat.lt_succ_self _,hp⟩)⟩
def b0q(n:Nat):Ctr:=⟨b8s,[.v (.st .sig), .v (.st .prog), .v (.int .i64), .v (.int .i64)],fun (gg:a0v) (x:a0a) (nodes:Int) (depth:Int)=>⟨(some (msz x<n∧a2r gg=true∧0≤nodes∧nodes≤1048576∧0≤depth∧depth≤1048576),[⟨(.int .i64),b5v gg x nodes depth⟩,⟨.bool,b0z gg x nodes depth⟩])⟩⟩
def b8m:Ctr:=⟨b8s,[.v (.st .sig), .v (.st .prog), .v (.int .i64), .v (.int .i64)],fun (gg:a0v) (x:a0a) (nodes:Int) (depth:Int)=>⟨(some (a2r gg=true∧0≤nodes∧nodes≤1048576∧0≤depth∧depth≤1048576),[⟨(.int .i64),b5v gg x nodes depth⟩,⟨.bool,b0z gg x nodes depth⟩])⟩⟩
def d3g(gg:a0v)(x:a0a)(nodes:Int)(depth:Int):Nat→a0s:=(fun zb=>if Nat.beq zb 100004 then .mk (Unit) (fun u=>a1u x.kind=(x.kids.length:Int)∧1≤nodes∧1≤depth) (fun u=>0) [] [0,1,6,7,10,12,16,17,18,19,20,21,22,23,24,25,26,27,28,29,30,31,32,33,34] (fun u=>[]) [2,3,4,5,8,9,11,13,14,15,35,36,37,38,39,40,41,42,43,44,45,46,47,48,49,50,51,52,53,54,55,56,57,58,59,60,61,62,63,64,65,66,67,68,69,70,71,72,73,74,75,76,77,78,79,80,81,82,83,84,85,86,87,88,89,90,91,92,93,94,95,96,97] (fun u=>[]) [] [] (fun u=>(fun zb=>if Nat.beq zb 100006 then .mk (Unit) (fun u=>a1u x.kind=(x.kids.length:Int)∧1≤nodes∧1≤depth∧d7t gg x=true) (fun u=>0) [] [0,1,6,7,10,11,12,16,17,18,19,20,21,22,23,24,25,26,27,28,29,30,31,32,33,34,35,36,37,38,39,40,41,42,43,44,45,46,47,48,49,50,51,52] (fun u=>[]) [2,3,4,5,8,9,13,14,15,53,54,55,56,57,58,59,60,61,62,63,64,65,66,67,68,69,70,71,72,73,74,75,76,77,78,79,80,81,82,83,84,85,86,87,88,89,90,91,92,93,94,95,96,97] (fun u=>[]) [] [] (fun u=>(fun zb=>if Nat.beq zb 100008 then .mk (Unit) (fun u=>c1s gg x=true∧1≤nodes∧1≤depth) (fun u=>0) [] [0,1,6,7,10,11,12,16,17,18,19,20,21,22,23,24,25,26,27,28,29,30,31,32,33,34,35,36,37,38,39,40,41,42,43,44,45,46,47,48,49,50,51,52,53,54,55,56,57,58,59,60,61,62,63,64,65,66,67,68,69,70,71,72,73,74] (fun u=>[]) [2,3,4,5,8,9,13,14,15,75,76,77,78,79,80,81,82,83,84,85,86,87,88,89,90,91,92,93,94,95,96,97] (fun u=>[]) [] [] (fun u=>(fun zb=>if Nat.beq zb 0 then .mk (Nat) (fun k=>k≤x.kids.length∧a2t (a2m gg) (x.kids.take k)=true∧1+(szL a1j (x.kids.take k):Int)≤nodes∧1+(a3p a2b (x.kids.take k):Int)≤depth) (fun k=>x.kids.length - k) [] [0,1,5,6,7,10,11,12,16,17,18,19,20,21,22,23,24,25,26,27,28,29,30,31,32,33,34,35,36,37,38,39,40,41,42,43,44,45,46,47,48,49,50,51,52,53,54,55,56,57,58,59,60,61,62,63,64,65,66,67,68,69,70,71,72,73,74,75,76,77] (fun k=>[(80, .imm ⟨(.int .i64),((k:Int):Int)⟩),(2, .imm ⟨(.int .i64),(nodes - (1+(szL a1j (x.kids.take k):Int)):Int)⟩)]) [2,3,4,8,9,13,14,15,78,79,80,81,82,83,84,85,86,87,88,89,90,91,92,93,94,95,96,97] (fun k=>[]) [] [] (fun k=>fun _ => .none) else .none)) else .none)) else .none)) else .none)
abbrev c8l(gg:a0v)(x:a0a)(nodes:Int)(depth:Int):Prop:=(∃ u1:Unit,((a1u x.kind=(x.kids.length:Int)∧1≤nodes∧1≤depth)∧((nodes=nodes∧(depth=depth∧(gg=gg∧(x=x∧((a3y x.kind)=(a3y x.kind)∧True)))))∧True)))
abbrev c8m(gg:a0v)(x:a0a)(nodes:Int)(depth:Int):Prop:=(x.kids.length≤140737488355328 →
 (a0d ((x.kids.length:Int)) →
 (((!(decide ((a1u x.kind)=((x.kids.length:Int)))))=true →
 ((0:Int)=(b5v gg x nodes depth)∧false=(b0z gg x nodes depth)))∧((!(decide ((a1u x.kind)=((x.kids.length:Int)))))=false →
 (c8l gg x nodes depth)))))
abbrev c8n(gg:a0v)(x:a0a)(nodes:Int)(depth:Int):Prop:=((true=true →
 ((0:Int)=(b5v gg x nodes depth)∧false=(b0z gg x nodes depth)))∧(true=false →
 (c8l gg x nodes depth)))
abbrev c0z(gg:a0v)(x:a0a)(nodes:Int)(depth:Int):Prop:=(∃ u2:Unit,((a1u x.kind=(x.kids.length:Int)∧1≤nodes∧1≤depth∧d7t gg x=true)∧((nodes=nodes∧(depth=depth∧(gg=gg∧(x=x∧True))))∧True)))
abbrev c8o(gg:a0v)(x:a0a)(nodes:Int)(depth:Int):Prop:=(((!(a3y x.kind))=true →
 (((!(a6t x.cond))=true →
 ((0:Int)=(b5v gg x nodes depth)∧false=(b0z gg x nodes depth)))∧((!(a6t x.cond))=false →
 (c0z gg x nodes depth))))∧((!(a3y x.kind))=(!true) →
 ((false=true →
 ((0:Int)=(b5v gg x nodes depth)∧false=(b0z gg x nodes depth)))∧(false=false →
 (c0z gg x nodes depth)))))
abbrev c8p(gg:a0v)(x:a0a)(nodes:Int)(depth:Int):Prop:=((true=true →
 ((0:Int)=(b5v gg x nodes depth)∧false=(b0z gg x nodes depth)))∧(true=false →
 (c0z gg x nodes depth)))
abbrev c1a(gg:a0v)(x:a0a)(nodes:Int)(depth:Int):Prop:=(∃ u3:Unit,((c1s gg x=true∧1≤nodes∧1≤depth)∧((nodes=nodes∧(depth=depth∧(gg=gg∧(x=x∧True))))∧True)))
abbrev c8q(gg:a0v)(x:a0a)(nodes:Int)(depth:Int):Prop:=(a0d x.kind →
 (((!(decide (x.kind=(3:Int))))=true →
 (a0d x.num →
 (((!(decide (x.num=(0:Int))))=true →
 ((0:Int)=(b5v gg x nodes depth)∧false=(b0z gg x nodes depth)))∧((!(decide (x.num=(0:Int))))=false →
 (c1a gg x nodes depth)))))∧((!(decide (x.kind=(3:Int))))=(!true) →
 ((false=true →
 ((0:Int)=(b5v gg x nodes depth)∧false=(b0z gg x nodes depth)))∧(false=false →
 (c1a gg x nodes depth))))))
abbrev c8r(gg:a0v)(x:a0a)(nodes:Int)(depth:Int):Prop:=((true=true →
 ((0:Int)=(b5v gg x nodes depth)∧false=(b0z gg x nodes depth)))∧(true=false →
 (c1a gg x nodes depth)))
theorem f1u(n:Nat)(gg:a0v)(x:a0a)(nodes:Int)(depth:Int):awp (a0u [b0q n,b2q,a7v,b7j,a2p] [] [] [4,5]) (a0k a8h) (d3g gg x nodes depth) 0 (a1b (a0u [b0q n,b2q,a7v,b7j,a2p] [] [] [4,5]) a8h fun r=>a1d r [⟨(.int .i64),b5v gg x nodes depth⟩,⟨.bool,b0z gg x nodes depth⟩]) (a0p a8h [.val ⟨(.st .sig),gg⟩, .val ⟨(.st .prog),x⟩, .val ⟨(.int .i64),nodes⟩, .val ⟨(.int .i64),depth⟩]) =
 ((a0d x.kind →
 (a0d (a1u x.kind) →
 ((((decide (nodes=(0:Int)))=false →
 (((decide (depth=(0:Int)))=false →
 (c8m gg x nodes depth))∧((decide (depth=(0:Int)))=(!false) →
 (c8n gg x nodes depth))))∧((decide (nodes=(0:Int)))=(!false) →
 ((true=false →
 (c8m gg x nodes depth))∧(true=(!false) →
 (c8n gg x nodes depth)))))∧(∀ u1:Unit,((a1u x.kind=(x.kids.length:Int)∧1≤nodes∧1≤depth) →
 ((((a3y x.kind)=true →
 (((!(isC gg x.cond))=false →
 (c8o gg x nodes depth))∧((!(isC gg x.cond))=(!false) →
 (c8p gg x nodes depth))))∧((a3y x.kind)=(!true) →
 ((false=false →
 (c8o gg x nodes depth))∧(false=(!false) →
 (c8p gg x nodes depth)))))∧(∀ u2:Unit,((a1u x.kind=(x.kids.length:Int)∧1≤nodes∧1≤depth∧d7t gg x=true) →
 ((a0d x.kind →
 (((decide (x.kind=(3:Int)))=true →
 (a0d x.num →
 (a0d gg.actions →
 (a0d (gg.actions - (1:Int))∧((((!(decide ((0:Int)≤x.num∧x.num≤(gg.actions - (1:Int)))))=false) →
 (c8q gg x nodes depth))∧(((!(decide ((0:Int)≤x.num∧x.num≤(gg.actions - (1:Int)))))=(!false)) →
 (c8r gg x nodes depth)))))))∧((decide (x.kind=(3:Int)))=(!true) →
 ((false=false →
 (c8q gg x nodes depth))∧(false=(!false) →
 (c8r gg x nodes depth))))))∧(∀ u3:Unit,((c1s gg x=true∧1≤nodes∧1≤depth) →
 (a0d (nodes - (1:Int))∧(x.kids.length≤140737488355328 →
 (a0d ((x.kids.length:Int)) →
 ((∃ k4:Nat,((k4≤x.kids.length∧a2t (a2m gg) (x.kids.take k4)=true∧1+(szL a1j (x.kids.take k4):Int)≤nodes∧1+(a3p a2b (x.kids.take k4):Int)≤depth)∧(((nodes - (1:Int))=(nodes - (1+(szL a1j (x.kids.take k4):Int)))∧(depth=depth∧(gg=gg∧(x.kids=x.kids∧(((x.kids.length:Int))=((x.kids.length:Int))∧((0:Int)=(k4:Int)∧True))))))∧True)))∧(∀ k4:Nat,((k4≤x.kids.length∧a2t (a2m gg) (x.kids.take k4)=true∧1+(szL a1j (x.kids.take k4):Int)≤nodes∧1+(a3p a2b (x.kids.take k4):Int)≤depth) →
 (((decide ((k4:Int)<((x.kids.length:Int))))=true →
 (a0g (k4:Int) x.kids.length∧(a0d (depth - (1:Int))∧((msz (a0b (x.kids.getD k4 zP))<n∧a2r gg=true∧0≤(nodes - (1+(szL a1j (x.kids.take k4):Int)))∧(nodes - (1+(szL a1j (x.kids.take k4):Int)))≤1048576∧0≤(depth - (1:Int))∧(depth - (1:Int))≤1048576)∧(a0d (b5v gg (a0b (x.kids.getD k4 zP)) (nodes - (1+(szL a1j (x.kids.take k4):Int))) (depth - (1:Int))) →
 (((!(b0z gg (a0b (x.kids.getD k4 zP)) (nodes - (1+(szL a1j (x.kids.take k4):Int))) (depth - (1:Int))))=true →
 ((0:Int)=(b5v gg x nodes depth)∧false=(b0z gg x nodes depth)))∧((!(b0z gg (a0b (x.kids.getD k4 zP)) (nodes - (1+(szL a1j (x.kids.take k4):Int))) (depth - (1:Int))))=false →
 (a0d ((k4:Int)+(1:Int))∧(∃ k5:Nat,((k5≤x.kids.length∧a2t (a2m gg) (x.kids.take k5)=true∧1+(szL a1j (x.kids.take k5):Int)≤nodes∧1+(a3p a2b (x.kids.take k5):Int)≤depth)∧(x.kids.length - k5<x.kids.length - k4∧(((b5v gg (a0b (x.kids.getD k4 zP)) (nodes - (1+(szL a1j (x.kids.take k4):Int))) (depth - (1:Int)))=(nodes - (1+(szL a1j (x.kids.take k5):Int)))∧(depth=depth∧(gg=gg∧(x.kids=x.kids∧(((x.kids.length:Int))=((x.kids.length:Int))∧(((k4:Int)+(1:Int))=(k5:Int)∧True))))))∧True))))))))))))∧((decide ((k4:Int)<((x.kids.length:Int))))=false →
 ((nodes - (1+(szL a1j (x.kids.take k4):Int)))=(b5v gg x nodes depth)∧true=(b0z gg x nodes depth)))))))))))))))))))))):=by kernel_rfl
theorem f1a(n:Nat)(hE:a0m [b0q n,b2q,a7v,b7j,a2p]):Ctr.Good (b0q (n+1)):=by
 refine⟨a0j b6f rfl (by decide),?_⟩
 show ∀ (gg:a0v) (x:a0a) (nodes:Int) (depth:Int),(msz x<n+1∧a2r gg=true∧0≤nodes∧nodes≤1048576∧0≤depth∧depth≤1048576)→a0z prog b8s [.val ⟨(.st .sig),gg⟩, .val ⟨(.st .prog),x⟩, .val ⟨(.int .i64),nodes⟩, .val ⟨(.int .i64),depth⟩] (·=[⟨(.int .i64),b5v gg x nodes depth⟩,⟨.bool,b0z gg x nodes depth⟩])
 intro gg x nodes depth hp
 refine a0x (wr:=[]) (cl:=[]) (ro:=[4,5]) hE b6f e1t (d3g gg x nodes depth) ?_
 rewrite [f1u n gg x nodes depth]
 have fg:=e8r gg hp.2.1
 have fs:=f5p gg x nodes depth
 rw[d8r gg x,f9y x,e2l x] at fs
 have f0:=a5q x
 have f1:=b4c a1j x.kids
 have f2:=d3w a2b x.kids
 have f3:=c4t (a2m gg) x.kids
 refine fun a0=>fun a1=>⟨⟨fun a2=>⟨fun a3=>fun a4=>fun a5=>⟨fun a6=>⟨?_,?_⟩,fun a6=>⟨(),⟨?_,⟨⟨rfl,⟨rfl,⟨rfl,⟨rfl,⟨rfl,trivial⟩⟩⟩⟩⟩,trivial⟩⟩⟩⟩,fun a3=>⟨fun a4=>⟨?_,?_⟩,fun a4=>⟨(),⟨?_,⟨⟨rfl,⟨rfl,⟨rfl,⟨rfl,⟨rfl,trivial⟩⟩⟩⟩⟩,trivial⟩⟩⟩⟩⟩,fun a2=>⟨fun a3=>fun a4=>fun a5=>⟨fun a6=>⟨?_,?_⟩,fun a6=>⟨(),⟨?_,⟨⟨rfl,⟨rfl,⟨rfl,⟨rfl,⟨rfl,trivial⟩⟩⟩⟩⟩,trivial⟩⟩⟩⟩,fun a3=>⟨fun a4=>⟨?_,?_⟩,fun a4=>⟨(),⟨?_,⟨⟨rfl,⟨rfl,⟨rfl,⟨rfl,⟨rfl,trivial⟩⟩⟩⟩⟩,trivial⟩⟩⟩⟩⟩⟩,fun u1=>fun a2=>⟨⟨fun a3=>⟨fun a4=>⟨fun a5=>⟨fun a6=>⟨?_,?_⟩,fun a6=>⟨(),⟨?_,⟨⟨rfl,⟨rfl,⟨rfl,⟨rfl,trivial⟩⟩⟩⟩,trivial⟩⟩⟩⟩,fun a5=>⟨fun a6=>⟨?_,?_⟩,fun a6=>⟨(),⟨?_,⟨⟨rfl,⟨rfl,⟨rfl,⟨rfl,trivial⟩⟩⟩⟩,trivial⟩⟩⟩⟩⟩,fun a4=>⟨fun a5=>⟨?_,?_⟩,fun a5=>⟨(),⟨?_,⟨⟨rfl,⟨rfl,⟨rfl,⟨rfl,trivial⟩⟩⟩⟩,trivial⟩⟩⟩⟩⟩,fun a3=>⟨fun a4=>⟨fun a5=>⟨fun a6=>⟨?_,?_⟩,fun a6=>⟨(),⟨?_,⟨⟨rfl,⟨rfl,⟨rfl,⟨rfl,trivial⟩⟩⟩⟩,trivial⟩⟩⟩⟩,fun a5=>⟨fun a6=>⟨?_,?_⟩,fun a6=>⟨(),⟨?_,⟨⟨rfl,⟨rfl,⟨rfl,⟨rfl,trivial⟩⟩⟩⟩,trivial⟩⟩⟩⟩⟩,fun a4=>⟨fun a5=>⟨?_,?_⟩,fun a5=>⟨(),⟨?_,⟨⟨rfl,⟨rfl,⟨rfl,⟨rfl,trivial⟩⟩⟩⟩,trivial⟩⟩⟩⟩⟩⟩,fun u2=>fun a3=>⟨fun a4=>⟨fun a5=>fun a6=>fun a7=>⟨?_,⟨fun a8=>fun a9=>⟨fun a10=>fun a11=>⟨fun a12=>⟨?_,?_⟩,fun a12=>⟨(),⟨?_,⟨⟨rfl,⟨rfl,⟨rfl,⟨rfl,trivial⟩⟩⟩⟩,trivial⟩⟩⟩⟩,fun a10=>⟨fun a11=>⟨?_,?_⟩,fun a11=>⟨(),⟨?_,⟨⟨rfl,⟨rfl,⟨rfl,⟨rfl,trivial⟩⟩⟩⟩,trivial⟩⟩⟩⟩⟩,fun a8=>⟨fun a9=>⟨?_,?_⟩,fun a9=>⟨(),⟨?_,⟨⟨rfl,⟨rfl,⟨rfl,⟨rfl,trivial⟩⟩⟩⟩,trivial⟩⟩⟩⟩⟩⟩,fun a5=>⟨fun a6=>fun a7=>⟨fun a8=>fun a9=>⟨fun a10=>⟨?_,?_⟩,fun a10=>⟨(),⟨?_,⟨⟨rfl,⟨rfl,⟨rfl,⟨rfl,trivial⟩⟩⟩⟩,trivial⟩⟩⟩⟩,fun a8=>⟨fun a9=>⟨?_,?_⟩,fun a9=>⟨(),⟨?_,⟨⟨rfl,⟨rfl,⟨rfl,⟨rfl,trivial⟩⟩⟩⟩,trivial⟩⟩⟩⟩⟩,fun a6=>⟨fun a7=>⟨?_,?_⟩,fun a7=>⟨(),⟨?_,⟨⟨rfl,⟨rfl,⟨rfl,⟨rfl,trivial⟩⟩⟩⟩,trivial⟩⟩⟩⟩⟩⟩,fun u3=>fun a4=>⟨?_,fun a5=>fun a6=>⟨⟨0,⟨?_,⟨⟨?_,⟨rfl,⟨rfl,⟨rfl,⟨rfl,⟨?_,trivial⟩⟩⟩⟩⟩⟩,trivial⟩⟩⟩,fun k4 a7=>have b7x0:=a4q (a2m gg) zP x.kids k4;have b7x1:=a5s (a2m gg) zP x.kids k4;have b7x2:=a4p (a2m gg) x.kids k4;have b7x3:=a1i zP x.kids k4;have b7x4:=a6v a1j zP x.kids k4;have b7x5:=a2l a1j x.kids (k4+1);have b7x6:=b0h a1j x.kids k4;have b7x7:=b5y a2b zP x.kids k4;have b7x8:=a5x a2b x.kids (k4+1);have b7x9:=c2r a2b x.kids k4;have b7x10:=f5p gg (x.kids.getD k4 zP) (nodes - (1+(szL a1j (x.kids.take k4):Int))) (depth - 1);⟨fun a8=>⟨?_,⟨?_,⟨?_,fun a9=>⟨fun a10=>⟨?_,?_⟩,fun a10=>⟨?_,⟨k4+1,⟨?_,⟨?_,⟨⟨?_,⟨rfl,⟨rfl,⟨rfl,⟨rfl,⟨?_,trivial⟩⟩⟩⟩⟩⟩,trivial⟩⟩⟩⟩⟩⟩⟩⟩⟩,fun a8=>⟨?_,?_⟩⟩⟩⟩⟩⟩⟩
 all_goals try and_intros
 all_goals try simp only[a0c.eta,a0a.eta,a1y,a2a] at *
 all_goals (first|rfl|trivial|(simp only[decide_eq_true_eq,decide_eq_false_iff_not,a0g,a0d] at *;omega)|(rcases fs with ⟨t1,t2,t3,t4,t5⟩|⟨t1,t4,t5⟩<;>(try rw[t4])<;>(try rw[t5])<;>clear t4 t5<;>simp only[decide_eq_true_eq,decide_eq_false_iff_not,d8b,d1y,d7t,Bool.and_eq_true,Bool.and_eq_false_iff,Bool.not_eq_true',Bool.not_eq_false',a0d] at *<;>first|rfl|omega|grind|grind [a1u]))
theorem f2m :∀ n,a0m [b0q n]
 | 0=>⟨⟨a0j b6f rfl (by decide),fun _ _ _ _ h=>absurd h.1 (Nat.not_lt_zero _)⟩,trivial⟩
 | n+1=>by
  have ih:=f2m  n
  exact⟨f1a n ⟨ih.1,e2y,d5t,f0d,b0l,trivial⟩,trivial⟩
theorem e2x :Ctr.Good b8m :=
 ⟨a0j b6f rfl (by decide),fun gg x nodes depth hp=>(f2m  (msz x+1)).1.2 gg x nodes depth (⟨Nat.lt_succ_self _,hp⟩)⟩
def b3h(n:Nat):Ctr:=⟨c0m,[.v (.st .sig), .r (.st .prog)],fun (gg:a0v) (x:a0a)=>⟨(some (msz x<n∧a2r gg=true),[⟨.bool,a2m gg x⟩])⟩⟩
def c0c:Ctr:=⟨c0m,[.v (.st .sig), .r (.st .prog)],fun (gg:a0v) (x:a0a)=>⟨(some (a2r gg=true),[⟨.bool,a2m gg x⟩])⟩⟩
def d6o(gg:a0v)(x:a0a):Nat→a0s:=(fun zb=>if Nat.beq zb 100003 then .mk (Unit) (fun u=>a1u x.kind=(x.kids.length:Int)) (fun u=>0) [] [0,3,6,7,8,9,10,11,12,13,14,15,16] (fun u=>[]) [1,2,4,5,17,18,19,20,21,22,23,24,25,26,27,28,29,30,31,32,33,34,35,36,37,38,39,40,41,42,43,44,45,46,47,48,49,50,51,52,53,54,55,56,57,58,59,60,61,62,63,64,65,66,67,68,69,70,71,72,73,74,75,76,77,78,79,80,81,82,83,84,85,86,87,88,89,90,91,92] (fun u=>[]) [] [] (fun u=>(fun zb=>if Nat.beq zb 100005 then .mk (Unit) (fun u=>a1u x.kind=(x.kids.length:Int)∧d1y gg x=true) (fun u=>0) [] [0,3,6,7,8,9,10,11,12,13,14,15,16,17,18,19,20,21,22,23,24,25,26,27,28,29,30,31,32,33,34,35,36,37,38,39,40,41,42,43,44,45,46] (fun u=>[]) [1,2,4,5,47,48,49,50,51,52,53,54,55,56,57,58,59,60,61,62,63,64,65,66,67,68,69,70,71,72,73,74,75,76,77,78,79,80,81,82,83,84,85,86,87,88,89,90,91,92] (fun u=>[]) [] [] (fun u=>(fun zb=>if Nat.beq zb 100007 then .mk (Unit) (fun u=>c1s gg x=true) (fun u=>0) [] [0,3,6,7,8,9,10,11,12,13,14,15,16,17,18,19,20,21,22,23,24,25,26,27,28,29,30,31,32,33,34,35,36,37,38,39,40,41,42,43,44,45,46,47,48,49,50,51,52,53,54,55,56,57,58,59,60,61,62,63,64,65,66,67,68,69,70,71,72,73,74] (fun u=>[]) [1,2,4,5,75,76,77,78,79,80,81,82,83,84,85,86,87,88,89,90,91,92] (fun u=>[]) [] [] (fun u=>(fun zb=>if Nat.beq zb 0 then .mk (Nat) (fun k=>k≤x.kids.length∧a2t (a2m gg) (x.kids.take k)=true) (fun k=>x.kids.length - k) [] [0,3,6,7,8,9,10,11,12,13,14,15,16,17,18,19,20,21,22,23,24,25,26,27,28,29,30,31,32,33,34,35,36,37,38,39,40,41,42,43,44,45,46,47,48,49,50,51,52,53,54,55,56,57,58,59,60,61,62,63,64,65,66,67,68,69,70,71,72,73,74] (fun k=>[(5, .imm ⟨(.int .i64),((k:Int):Int)⟩)]) [1,2,4,5,75,76,77,78,79,80,81,82,83,84,85,86,87,88,89,90,91,92] (fun k=>[]) [] [] (fun k=>fun _ => .none) else .none)) else .none)) else .none)) else .none)
abbrev d1d(gg:a0v)(x:a0a):Prop:=(a0d x.kind →
 (((!(decide (x.kind=(3:Int))))=true →
 (a0d x.num →
 (((!(decide (x.num=(0:Int))))=true →
 false=(a2m gg x))∧((!(decide (x.num=(0:Int))))=false →
 (∃ u2:Unit,((a1u x.kind=(x.kids.length:Int)∧d1y gg x=true)∧((x=x∧(gg=gg∧True))∧True)))))))∧((!(decide (x.kind=(3:Int))))=(!true) →
 ((false=true →
 false=(a2m gg x))∧(false=false →
 (∃ u2:Unit,((a1u x.kind=(x.kids.length:Int)∧d1y gg x=true)∧((x=x∧(gg=gg∧True))∧True))))))))
abbrev d1e(gg:a0v)(x:a0a):Prop:=((true=true →
 false=(a2m gg x))∧(true=false →
 (∃ u2:Unit,((a1u x.kind=(x.kids.length:Int)∧d1y gg x=true)∧((x=x∧(gg=gg∧True))∧True)))))
abbrev d1f(gg:a0v)(x:a0a):Prop:=(a0d x.kind →
 (((!(a3y x.kind))=true →
 (((!(a6t x.cond))=true →
 false=(a2m gg x))∧((!(a6t x.cond))=false →
 (∃ u3:Unit,(c1s gg x=true∧((x=x∧(gg=gg∧True))∧True))))))∧((!(a3y x.kind))=(!true) →
 ((false=true →
 false=(a2m gg x))∧(false=false →
 (∃ u3:Unit,(c1s gg x=true∧((x=x∧(gg=gg∧True))∧True))))))))
theorem f6l(n:Nat)(gg:a0v)(x:a0a):awp (a0u [b3h n,b5h,a3l,b5f,b5g,b5i] [] [] [2]) (a0k b0g) (d6o gg x) 0 (a1b (a0u [b3h n,b5h,a3l,b5f,b5g,b5i] [] [] [2]) b0g fun r=>a1d r [⟨.bool,a2m gg x⟩]) (a0p b0g [.val ⟨(.st .sig),gg⟩, .ref ⟨(.st .prog),x⟩]) =
 (((x.kids.length≤140737488355328 →
 (a0d ((x.kids.length:Int)) →
 (a0d x.kind →
 (a0d (a1u x.kind) →
 (((!(decide (((x.kids.length:Int))=(a1u x.kind))))=true →
 false=(a2m gg x))∧((!(decide (((x.kids.length:Int))=(a1u x.kind))))=false →
 (∃ u1:Unit,(a1u x.kind=(x.kids.length:Int)∧((x=x∧(gg=gg∧True))∧True)))))))))∧(∀ u1:Unit,(a1u x.kind=(x.kids.length:Int) →
 ((((decide (x.kind=(3:Int)))=true →
 (a0d (gg.actions - (1:Int))∧(a0d x.kind →
 (a0d x.num →
 (a0d gg.actions →
 ((((!(decide ((0:Int)≤x.num∧x.num≤(gg.actions - (1:Int)))))=false) →
 (d1d gg x))∧(((!(decide ((0:Int)≤x.num∧x.num≤(gg.actions - (1:Int)))))=(!false)) →
 (d1e gg x))))))))∧((decide (x.kind=(3:Int)))=(!true) →
 (a0d x.kind →
 ((false=false →
 (d1d gg x))∧(false=(!false) →
 (d1e gg x))))))∧(∀ u2:Unit,((a1u x.kind=(x.kids.length:Int)∧d1y gg x=true) →
 ((((a3y x.kind)=true →
 (a0d x.kind →
 (((!(okC gg x.cond))=false →
 (d1f gg x))∧((!(okC gg x.cond))=(!false) →
 ((true=true →
 false=(a2m gg x))∧(true=false →
 (∃ u3:Unit,(c1s gg x=true∧((x=x∧(gg=gg∧True))∧True)))))))))∧((a3y x.kind)=(!true) →
 (a0d x.kind →
 ((false=false →
 (d1f gg x))∧(false=(!false) →
 ((true=true →
 false=(a2m gg x))∧(true=false →
 (∃ u3:Unit,(c1s gg x=true∧((x=x∧(gg=gg∧True))∧True))))))))))∧(∀ u3:Unit,(c1s gg x=true →
 ((∃ k4:Nat,((k4≤x.kids.length∧a2t (a2m gg) (x.kids.take k4)=true)∧((x=x∧(gg=gg∧((0:Int)=(k4:Int)∧True)))∧True)))∧(∀ k4:Nat,((k4≤x.kids.length∧a2t (a2m gg) (x.kids.take k4)=true) →
 (x.kids.length≤140737488355328 →
 (a0d ((x.kids.length:Int)) →
 (((decide ((k4:Int)<((x.kids.length:Int))))=true →
 (a0g (k4:Int) x.kids.length∧(x.kids.length≤140737488355328 →
 ((msz (x.kids.getD k4 zP)<n∧a2r gg=true)∧(((!(a2m gg (x.kids.getD k4 zP)))=true →
 false=(a2m gg x))∧((!(a2m gg (x.kids.getD k4 zP)))=false →
 (a0d ((k4:Int)+(1:Int))∧(∃ k5:Nat,((k5≤x.kids.length∧a2t (a2m gg) (x.kids.take k5)=true)∧(x.kids.length - k5<x.kids.length - k4∧((x=x∧(gg=gg∧(((k4:Int)+(1:Int))=(k5:Int)∧True)))∧True)))))))))))∧((decide ((k4:Int)<((x.kids.length:Int))))=false →
 true=(a2m gg x)))))))))))))))))):=by kernel_rfl
theorem f5d(n:Nat)(hE:a0m [b3h n,b5h,a3l,b5f,b5g,b5i]):Ctr.Good (b3h (n+1)):=by
 refine⟨a0j b8b rfl (by decide),?_⟩
 show ∀ (gg:a0v) (x:a0a),(msz x<n+1∧a2r gg=true)→a0z prog c0m [.val ⟨(.st .sig),gg⟩, .ref ⟨(.st .prog),x⟩] (·=[⟨.bool,a2m gg x⟩])
 intro gg x hp
 refine a0x (wr:=[]) (cl:=[]) (ro:=[2]) hE b8b e6g (d6o gg x) ?_
 rewrite [f6l n gg x]
 have fg:=e8r gg hp.2
 have f0:=a5q x
 have f1:=c4t (a2m gg) x.kids
 refine⟨fun a0=>fun a1=>fun a2=>fun a3=>⟨fun a4=>?_,fun a4=>⟨(),⟨?_,⟨⟨rfl,⟨rfl,trivial⟩⟩,trivial⟩⟩⟩⟩,fun u1=>fun a0=>⟨⟨fun a1=>⟨?_,fun a2=>fun a3=>fun a4=>⟨fun a5=>fun a6=>⟨fun a7=>fun a8=>⟨fun a9=>?_,fun a9=>⟨(),⟨?_,⟨⟨rfl,⟨rfl,trivial⟩⟩,trivial⟩⟩⟩⟩,fun a7=>⟨fun a8=>?_,fun a8=>⟨(),⟨?_,⟨⟨rfl,⟨rfl,trivial⟩⟩,trivial⟩⟩⟩⟩⟩,fun a5=>⟨fun a6=>?_,fun a6=>⟨(),⟨?_,⟨⟨rfl,⟨rfl,trivial⟩⟩,trivial⟩⟩⟩⟩⟩⟩,fun a1=>fun a2=>⟨fun a3=>fun a4=>⟨fun a5=>fun a6=>⟨fun a7=>?_,fun a7=>⟨(),⟨?_,⟨⟨rfl,⟨rfl,trivial⟩⟩,trivial⟩⟩⟩⟩,fun a5=>⟨fun a6=>?_,fun a6=>⟨(),⟨?_,⟨⟨rfl,⟨rfl,trivial⟩⟩,trivial⟩⟩⟩⟩⟩,fun a3=>⟨fun a4=>?_,fun a4=>⟨(),⟨?_,⟨⟨rfl,⟨rfl,trivial⟩⟩,trivial⟩⟩⟩⟩⟩⟩,fun u2=>fun a1=>⟨⟨fun a2=>fun a3=>⟨fun a4=>fun a5=>⟨fun a6=>⟨fun a7=>?_,fun a7=>⟨(),⟨?_,⟨⟨rfl,⟨rfl,trivial⟩⟩,trivial⟩⟩⟩⟩,fun a6=>⟨fun a7=>?_,fun a7=>⟨(),⟨?_,⟨⟨rfl,⟨rfl,trivial⟩⟩,trivial⟩⟩⟩⟩⟩,fun a4=>⟨fun a5=>?_,fun a5=>⟨(),⟨?_,⟨⟨rfl,⟨rfl,trivial⟩⟩,trivial⟩⟩⟩⟩⟩,fun a2=>fun a3=>⟨fun a4=>fun a5=>⟨fun a6=>⟨fun a7=>?_,fun a7=>⟨(),⟨?_,⟨⟨rfl,⟨rfl,trivial⟩⟩,trivial⟩⟩⟩⟩,fun a6=>⟨fun a7=>?_,fun a7=>⟨(),⟨?_,⟨⟨rfl,⟨rfl,trivial⟩⟩,trivial⟩⟩⟩⟩⟩,fun a4=>⟨fun a5=>?_,fun a5=>⟨(),⟨?_,⟨⟨rfl,⟨rfl,trivial⟩⟩,trivial⟩⟩⟩⟩⟩⟩,fun u3=>fun a2=>⟨⟨0,⟨?_,⟨⟨rfl,⟨rfl,⟨?_,trivial⟩⟩⟩,trivial⟩⟩⟩,fun k4 a3=>have b3x0:=a4q (a2m gg) zP x.kids k4;have b3x1:=a5s (a2m gg) zP x.kids k4;have b3x2:=a4p (a2m gg) x.kids k4;have b3x3:=a1i zP x.kids k4;fun a4=>fun a5=>⟨fun a6=>⟨?_,fun a7=>⟨?_,⟨fun a8=>?_,fun a8=>⟨?_,⟨k4+1,⟨?_,⟨?_,⟨⟨rfl,⟨rfl,⟨?_,trivial⟩⟩⟩,trivial⟩⟩⟩⟩⟩⟩⟩⟩,fun a6=>?_⟩⟩⟩⟩⟩
 all_goals try and_intros
 all_goals try rw[d8r gg x]
 all_goals first|rfl|trivial|(simp only[decide_eq_true_eq,decide_eq_false_iff_not,a0g,a0d] at *;omega)|((try simp only[d8b,d1y,d7t,h0h] at *);first|rfl|omega|grind [a0g,a0d]|grind [a1u,a0g,a0d])
theorem f2t :∀ n,a0m [b3h n]
 | 0=>⟨⟨a0j b8b rfl (by decide),fun _ _ h=>absurd h.1 (Nat.not_lt_zero _)⟩,trivial⟩
 | n+1=>by
  have ih:=f2t  n
  exact⟨f5d n ⟨ih.1,e6m,b8d,e6k,e6l,e6o,trivial⟩,trivial⟩
theorem e6p :Ctr.Good c0c :=
 ⟨a0j b8b rfl (by decide),fun gg x hp=>(f2t  (msz x+1)).1.2 gg x (⟨Nat.lt_succ_self _,hp⟩)⟩
def a6z:Ctr:=⟨c7m,[.v (.st .sig), .v (.st .prog)],fun (gg:a0v) (x:a0a)=>⟨(some (a2r gg=true),[⟨.bool,isP gg x⟩])⟩⟩
def d9m(gg:a0v)(x:a0a):Nat→a0s:=fun _ => .none
theorem f8m(gg:a0v)(x:a0a):awp (a0u [b8m] [] [] [2,3]) (a0k b1k) (d9m gg x) 0 (a1b (a0u [b8m] [] [] [2,3]) b1k fun r=>a1d r [⟨.bool,isP gg x⟩]) (a0p b1k [.val ⟨(.st .sig),gg⟩, .val ⟨(.st .prog),x⟩]) =
 (((a2r gg=true∧0≤(60:Int)∧(60:Int)≤1048576∧0≤(20:Int)∧(20:Int)≤1048576)∧(a0d (b5v gg x (60:Int) (20:Int)) →
 (b0z gg x (60:Int) (20:Int))=(isP gg x)))):=by kernel_rfl
theorem f7q(hE:a0m [b8m]):Ctr.Good a6z:=by
 refine⟨a0j d5d rfl (by decide),?_⟩
 show ∀ (gg:a0v) (x:a0a),(a2r gg=true)→a0z prog c7m [.val ⟨(.st .sig),gg⟩, .val ⟨(.st .prog),x⟩] (·=[⟨.bool,isP gg x⟩])
 intro gg x hp
 refine a0x (wr:=[]) (cl:=[]) (ro:=[2,3]) hE d5d e9b (d9m gg x) ?_
 rewrite [f8m gg x]
 refine⟨?_,fun a0=>?_⟩
 all_goals try and_intros
 all_goals first|rfl|trivial|omega|(simp only[decide_eq_true_eq,decide_eq_false_iff_not,a0g,a0d,a1z,a2w,a1w,a1x] at *;omega)|(simp[a0g,a0d] at *;omega)|grind
theorem d0t:Ctr.Good a6z:=f7q ⟨e2x,trivial⟩
def b0m:Ctr:=⟨c2t,[.v (.st .sig), .v (.st .prog)],fun (gg:a0v) (x:a0a)=>⟨(none,[⟨.bool,okP gg x⟩])⟩⟩
def d1j(gg:a0v)(x:a0a):Nat→a0s:=fun _ => .none
theorem e7e(gg:a0v)(x:a0a):awp (a0u [b2o,a6z] [] [] [2,3]) (a0k a7h) (d1j gg x) 0 (a1b (a0u [b2o,a6z] [] [] [2,3]) a7h fun r=>a1d r [⟨.bool,okP gg x⟩]) (a0p a7h [.val ⟨(.st .sig),gg⟩, .val ⟨(.st .prog),x⟩]) =
 ((((a2r gg)=true →
 (a2r gg=true∧(isP gg x)=(okP gg x)))∧((a2r gg)=(!true) →
 false=(okP gg x)))):=by kernel_rfl
theorem e6t(hE:a0m [b2o,a6z]):Ctr.Good b0m:=by
 refine⟨a0j c7z rfl (by decide),?_⟩
 show ∀ (gg:a0v) (x:a0a),True→a0z prog c2t [.val ⟨(.st .sig),gg⟩, .val ⟨(.st .prog),x⟩] (·=[⟨.bool,okP gg x⟩])
 intro gg x _
 refine a0x (wr:=[]) (cl:=[]) (ro:=[2,3]) hE c7z e0i (d1j gg x) ?_
 rewrite [e7e gg x]
 refine⟨fun a0=>⟨?_,?_⟩,fun a0=>?_⟩
 all_goals try and_intros
 all_goals first|rfl|trivial|grind [okP]
theorem e0p:Ctr.Good b0m:=e6t ⟨e2v,d0t,trivial⟩
def e3k:Ctr:=⟨c4h,[.v (.st .sig), .r (.st .prog)],fun (gg:a0v) (x:a0a)=>⟨(none,[⟨.bool,okP gg x⟩])⟩⟩
def e3q(gg:a0v)(x:a0a):Nat→a0s:=fun _ => .none
abbrev d5x(gg:a0v)(x:a0a):Prop:=(a2b x≤1048576∧(a0d ((a2b x:Int)) →
 (((decide (((a2b x:Int))≤(20:Int)))=true →
 (a2r gg=true∧(a2m gg x)=(okP gg x)))∧((decide (((a2b x:Int))≤(20:Int)))=(!true) →
 false=(okP gg x)))))
theorem g1j(gg:a0v)(x:a0a):awp (a0u [a7b,c0b,b8p,c0c] [] [] [2]) (a0k b5c) (e3q gg x) 0 (a1b (a0u [a7b,c0b,b8p,c0c] [] [] [2]) b5c fun r=>a1d r [⟨.bool,okP gg x⟩]) (a0p b5c [.val ⟨(.st .sig),gg⟩, .ref ⟨(.st .prog),x⟩]) =
 ((((a2r gg)=true →
 ((0≤(60:Int)∧(60:Int)≤1048576)∧(a0d (szR (a1j x) (60:Int)) →
 (((decide ((0:Int)≤(szR (a1j x) (60:Int))))=true →
 (d5x gg x))∧((decide ((0:Int)≤(szR (a1j x) (60:Int))))=(!true) →
 ((false=true →
 (a2r gg=true∧(a2m gg x)=(okP gg x)))∧(false=(!true) →
 false=(okP gg x))))))))∧((a2r gg)=(!true) →
 ((false=true →
 (d5x gg x))∧(false=(!true) →
 ((false=true →
 (a2r gg=true∧(a2m gg x)=(okP gg x)))∧(false=(!true) →
 false=(okP gg x)))))))):=by kernel_rfl
theorem g1b(hE:a0m [a7b,c0b,b8p,c0c]):Ctr.Good e3k:=by
 refine⟨a0j d9d rfl (by decide),?_⟩
 show ∀ (gg:a0v) (x:a0a),True→a0z prog c4h [.val ⟨(.st .sig),gg⟩, .ref ⟨(.st .prog),x⟩] (·=[⟨.bool,okP gg x⟩])
 intro gg x _
 refine a0x (wr:=[]) (cl:=[]) (ro:=[2]) hE d9d f3m (e3q gg x) ?_
 rewrite [g1j gg x]
 have f1:=a5k (a1j x) 60
 have f2:=e2m x
 have f3:okP gg x=(a2r gg&&(a2m gg x&&decide ((a1j x:Int)≤60)&&decide ((a2b x:Int)≤20))):=rfl
 refine⟨fun a0=>⟨?_,fun a1=>⟨fun a2=>⟨?_,fun a3=>⟨fun a4=>⟨?_,?_⟩,fun a4=>?_⟩⟩,fun a2=>⟨fun a3=>⟨?_,?_⟩,fun a3=>?_⟩⟩⟩,fun a0=>⟨fun a1=>⟨?_,fun a2=>⟨fun a3=>⟨?_,?_⟩,fun a3=>?_⟩⟩,fun a1=>⟨fun a2=>⟨?_,?_⟩,fun a2=>?_⟩⟩⟩
 all_goals try and_intros
 all_goals try rw[f3]
 all_goals first|rfl|trivial|omega|(simp only[decide_eq_true_eq,decide_eq_false_iff_not,Bool.not_eq_true',Bool.not_eq_false'] at *;omega)|grind
theorem f3y:Ctr.Good e3k:=g1b ⟨d0v,e6n,e3f,e6p,trivial⟩
end
end Go.Proofs.Ytlaoejdeanljgaa

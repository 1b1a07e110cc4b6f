/- Programs: their form. Printed by vmk.py. -/
import Derived.Test.YtlaoejdeanljgaaVmUse
import Derived.Test.YtlaoejdeanljgaaVmLib
import Derived.Test.YtlaoejdeanljgaaVmShaped
import Derived.Test.YtlaoejdeanljgaaVmValid
set_option linter.unusedVariables false
set_option linter.unusedSimpArgs false
set_option linter.unusedSectionVars false
set_option maxRecDepth 4000
set_option maxHeartbeats 4000000
namespace Go.Proofs.Ytlaoejdeanljgaa
noncomputable section
mutual
def a1g:a0a→Nat
 | ⟨_,_,_,ks⟩=>1+c2i ks
def c2i:List a0a→Nat
 | []=>0
 | k::ks=>a1g k+c2i ks
end
theorem f2d:∀ xs,c2i xs=szL a1g xs
 | []=>rfl
 | x::xs=>by rw[c2i,szL,f2d xs]
theorem f7h(x:a0a):a1g x=1+szL a1g x.kids:=by
 cases x;simp[a1g,f2d]
mutual
def a2e:a0a→Nat
 | ⟨_,_,_,ks⟩=>1+c4e ks
def c4e:List a0a→Nat
 | []=>0
 | k::ks=>max (a2e k) (c4e ks)
end
theorem f1m:∀ xs,c4e xs=a3r a2e xs
 | []=>rfl
 | x::xs=>by rw[c4e,a3r,f1m xs]
theorem e1t(x:a0a):a2e x=1+a3r a2e x.kids:=by
 cases x;simp[a2e,f1m]
mutual
theorem e1u:∀ x:a0a,a2e x≤a1g x
 | ⟨k,n,c,ks⟩=>by
  have:=d8x ks
  simp only[a2e,a1g];omega
theorem d8x:∀ xs:List a0a,c4e xs≤c2i xs
 | []=>by simp[c4e]
 | x::xs=>by
  have h1:=e1u x
  have h2:=d8x xs
  simp only[c4e,c2i];omega
end
def a1r(k:Int):Int:=if k=1∨k=2∨k=3∨k=4 then 0 else if k=7 then 1 else if k=5∨k=6 then 2 else -1
def a2s(k:Int):Bool:=decide (k=4)||decide (k=6)||decide (k=7)
def a4o(x:a0b):Bool:=decide (x.kind=0)&&decide (x.num=0)&&decide (x.kids.length=0)
def a8u(gg:a0l)(x:a0a):Bool:=if x.kind=3 then decide (0≤x.num∧x.num≤gg.actions - 1) else decide (x.num=0)
def a8t(gg:a0l)(x:a0a):Bool:=if a2s x.kind=true then isC gg x.cond else a4o x.cond
def c0p(gg:a0l)(x:a0a):Bool:=decide (a1r x.kind=(x.kids.length:Int))&&a8u gg x&&a8t gg x
mutual
def a1d(gg:a0l):a0a→Bool
 | ⟨k,n,c,ks⟩=>c0p gg ⟨k,n,c,ks⟩&&f3m gg ks
def f3m(gg:a0l):List a0a→Bool
 | []=>true
 | k::ks=>a1d gg k&&f3m gg ks
end
theorem f7y(gg:a0l):∀ xs,f3m gg xs=a2r (a1d gg) xs
 | []=>rfl
 | x::xs=>by rw[f3m,a2r,f7y gg xs]
theorem b8s(gg:a0l)(x:a0a):a1d gg x=(c0p gg x&&a2r (a1d gg) x.kids):=by
 cases x;simp[a1d,f7y]
theorem c0w(gg:a0l)(x:a0a):c0p gg x=(decide (a1r x.kind=(x.kids.length:Int))&&a8u gg x&&a8t gg x):=rfl
def a9m(gg:a0l)(x:a0a)(nodes depth:Int):Bool:=a1d gg x&&decide ((a1g x:Int)≤nodes)&&decide ((a2e x:Int)≤depth)
def b5i(gg:a0l)(x:a0a)(nodes depth:Int):Int:=bif a9m gg x nodes depth then nodes - a1g x else 0
theorem f3d(gg:a0l)(x:a0a)(nodes depth:Int) :
  (a1d gg x=true∧(a1g x:Int)≤nodes∧(a2e x:Int)≤depth∧a9m gg x nodes depth=true∧b5i gg x nodes depth=nodes - a1g x) ∨
  ((a1d gg x=false∨nodes<(a1g x:Int)∨depth<(a2e x:Int))∧a9m gg x nodes depth=false∧b5i gg x nodes depth=0):=by
 unfold b5i a9m
 cases a1d gg x
 ·right;simp
 ·rcases Int.lt_or_le nodes (a1g x) with h|h
  ·right;simp[h,Int.not_le.2 h]
  ·rcases Int.lt_or_le depth (a2e x) with h'|h'
   ·right;simp[h',Int.not_le.2 h']
   ·left;simp[h,h']
def isP(gg:a0l)(x:a0a):Bool:=a9m gg x 60 20
def okP(gg:a0l)(x:a0a):Bool:=a1y gg&&isP gg x
theorem g8i(gg:a0l)(x:a0b):okC gg x=(a1y gg&&isC gg x):=by simp[okC,okE,isC,Bool.and_assoc]
theorem e7b(gg:a0l)(h:a1y gg=true):(0≤gg.tests∧gg.tests≤3)∧0≤gg.actions∧gg.actions≤4:=(a6e gg).1 h
def b6k:Ctr:=⟨c6r,[.v (.st .expr)],fun (x:a0b)=>⟨(none,[⟨.bool,a4o x⟩])⟩⟩
def d9d(x:a0b):Nat→a0t:=fun _ => .none
theorem f5w(x:a0b):awp (a0x [] [] [] [1]) (a0i b1m) (d9d x) 0 (a1h (a0x [] [] [] [1]) b1m fun r=>a1e r [⟨.bool,a4o x⟩]) (a0r b1m [.val ⟨(.st .expr),x⟩]) =
 ((a0d x.kind →
 (((decide (x.kind=(0:Int)))=true →
 (a0d x.num →
 (((decide (x.num=(0:Int)))=true →
 (x.kids.length≤140737488355328 →
 (a0d ((x.kids.length:Int)) →
 (decide (((x.kids.length:Int))=(0:Int)))=(a4o x))))∧((decide (x.num=(0:Int)))=(!true) →
 false=(a4o x)))))∧((decide (x.kind=(0:Int)))=(!true) →
 ((false=true →
 (x.kids.length≤140737488355328 →
 (a0d ((x.kids.length:Int)) →
 (decide (((x.kids.length:Int))=(0:Int)))=(a4o x))))∧(false=(!true) →
 false=(a4o x))))))):=by kernel_rfl
theorem f5b(hE:a0p []):Ctr.Good b6k:=by
 refine⟨a0j d4e rfl (by decide),?_⟩
 show ∀ (x:a0b),True→a1f prog c6r [.val ⟨(.st .expr),x⟩] (·=[⟨.bool,a4o x⟩])
 intro x _
 refine a0z (wr:=[]) (cl:=[]) (ro:=[1]) hE d4e e7l (d9d x) ?_
 rewrite [f5w x]
 refine fun a0=>⟨fun a1=>fun a2=>⟨fun a3=>fun a4=>fun a5=>?_,fun a3=>?_⟩,fun a1=>⟨fun a2=>fun a3=>fun a4=>?_,fun a2=>?_⟩⟩
 all_goals try and_intros
 all_goals first|rfl|trivial|grind [a4o]
theorem e8k:Ctr.Good b6k:=f5b trivial
def b5c:Ctr:=⟨c4o,[.r (.st .expr)],fun (x:a0b)=>⟨(none,[⟨.bool,a4o x⟩])⟩⟩
def d5u(x:a0b):Nat→a0t:=fun _ => .none
theorem f3y(x:a0b):awp (a0x []) (a0i b0e) (d5u x) 0 (a1h (a0x []) b0e fun r=>a1e r [⟨.bool,a4o x⟩]) (a0r b0e [.ref ⟨(.st .expr),x⟩]) =
 ((a0d x.kind →
 (((decide (x.kind=(0:Int)))=true →
 (a0d x.num →
 (((decide (x.num=(0:Int)))=true →
 (x.kids.length≤140737488355328 →
 (a0d ((x.kids.length:Int)) →
 (decide (((x.kids.length:Int))=(0:Int)))=(a4o x))))∧((decide (x.num=(0:Int)))=(!true) →
 false=(a4o x)))))∧((decide (x.kind=(0:Int)))=(!true) →
 ((false=true →
 (x.kids.length≤140737488355328 →
 (a0d ((x.kids.length:Int)) →
 (decide (((x.kids.length:Int))=(0:Int)))=(a4o x))))∧(false=(!true) →
 false=(a4o x))))))):=by kernel_rfl
theorem f2r(hE:a0p []):Ctr.Good b5c:=by
 refine⟨a0j d1r rfl (by decide),?_⟩
 show ∀ (x:a0b),True→a1f prog c4o [.ref ⟨(.st .expr),x⟩] (·=[⟨.bool,a4o x⟩])
 intro x _
 refine a0z (wr:=[]) (cl:=[]) (ro:=[]) hE d1r e5b (d5u x) ?_
 rewrite [f3y x]
 refine fun a0=>⟨fun a1=>fun a2=>⟨fun a3=>fun a4=>fun a5=>?_,fun a3=>?_⟩,fun a1=>⟨fun a2=>fun a3=>fun a4=>?_,fun a2=>?_⟩⟩
 all_goals try and_intros
 all_goals first|rfl|trivial|grind [a4o]
theorem e5r:Ctr.Good b5c:=f2r trivial
def b2t:Ctr:=⟨c2z,[.v (.int .i64)],fun (k:Int)=>⟨(none,[⟨(.int .i64),a1r k⟩,⟨.bool,a2s k⟩])⟩⟩
def d2p(k:Int):Nat→a0t:=fun _ => .none
abbrev b9y(k:Int):Prop:=(((decide (k=(4:Int)))=true →
 ((0:Int)=(a1r k)∧true=(a2s k)))∧((decide (k=(4:Int)))=false →
 (((decide (k=(5:Int)))=true →
 ((2:Int)=(a1r k)∧false=(a2s k)))∧((decide (k=(5:Int)))=false →
 (((decide (k=(6:Int)))=true →
 ((2:Int)=(a1r k)∧true=(a2s k)))∧((decide (k=(6:Int)))=false →
 (((decide (k=(7:Int)))=true →
 ((1:Int)=(a1r k)∧true=(a2s k)))∧((decide (k=(7:Int)))=false →
 ((-1:Int)=(a1r k)∧false=(a2s k))))))))))
theorem e9t(k:Int):awp (a0x []) (a0i a8j) (d2p k) 0 (a1h (a0x []) a8j fun r=>a1e r [⟨(.int .i64),a1r k⟩,⟨.bool,a2s k⟩]) (a0r a8j [.val ⟨(.int .i64),k⟩]) =
 ((((decide (k=(1:Int)))=true →
 (((decide (k=(1:Int)))=true →
 ((0:Int)=(a1r k)∧false=(a2s k)))∧((decide (k=(1:Int)))=false →
 (b9y k))))∧((decide (k=(1:Int)))=false →
 (((decide (k=(2:Int)))=true →
 (((decide (k=(2:Int)))=true →
 ((0:Int)=(a1r k)∧false=(a2s k)))∧((decide (k=(2:Int)))=false →
 (b9y k))))∧((decide (k=(2:Int)))=false →
 (((decide (k=(3:Int)))=true →
 ((0:Int)=(a1r k)∧false=(a2s k)))∧((decide (k=(3:Int)))=false →
 (b9y k)))))))):=by kernel_rfl
theorem e9c(hE:a0p []):Ctr.Good b2t:=by
 refine⟨a0j c9j rfl (by decide),?_⟩
 show ∀ (k:Int),True→a1f prog c2z [.val ⟨(.int .i64),k⟩] (·=[⟨(.int .i64),a1r k⟩,⟨.bool,a2s k⟩])
 intro k _
 refine a0z (wr:=[]) (cl:=[]) (ro:=[]) hE c9j e1f (d2p k) ?_
 rewrite [e9t k]
 refine⟨fun a0=>⟨fun a1=>⟨?_,?_⟩,fun a1=>⟨fun a2=>⟨?_,?_⟩,fun a2=>⟨fun a3=>⟨?_,?_⟩,fun a3=>⟨fun a4=>⟨?_,?_⟩,fun a4=>⟨fun a5=>⟨?_,?_⟩,fun a5=>⟨?_,?_⟩⟩⟩⟩⟩⟩,fun a0=>⟨fun a1=>⟨fun a2=>⟨?_,?_⟩,fun a2=>⟨fun a3=>⟨?_,?_⟩,fun a3=>⟨fun a4=>⟨?_,?_⟩,fun a4=>⟨fun a5=>⟨?_,?_⟩,fun a5=>⟨fun a6=>⟨?_,?_⟩,fun a6=>⟨?_,?_⟩⟩⟩⟩⟩⟩,fun a1=>⟨fun a2=>⟨?_,?_⟩,fun a2=>⟨fun a3=>⟨?_,?_⟩,fun a3=>⟨fun a4=>⟨?_,?_⟩,fun a4=>⟨fun a5=>⟨?_,?_⟩,fun a5=>⟨fun a6=>⟨?_,?_⟩,fun a6=>⟨?_,?_⟩⟩⟩⟩⟩⟩⟩⟩
 all_goals try and_intros
 all_goals first|rfl|trivial|grind [a1r,a2s]
theorem e2g:Ctr.Good b2t:=e9c trivial
def b5b:Ctr:=⟨c4n,[.v (.int .i64)],fun (k:Int)=>⟨(none,[⟨(.int .i64),a1r k⟩])⟩⟩
def d5s(k:Int):Nat→a0t:=fun _ => .none
abbrev b5y(k:Int):Prop:=(((decide (k=(7:Int)))=true →
 (1:Int)=(a1r k))∧((decide (k=(7:Int)))=false →
 (((decide (k=(5:Int)))=true →
 (((decide (k=(5:Int)))=true →
 (2:Int)=(a1r k))∧((decide (k=(5:Int)))=false →
 (-1:Int)=(a1r k))))∧((decide (k=(5:Int)))=false →
 (((decide (k=(6:Int)))=true →
 (2:Int)=(a1r k))∧((decide (k=(6:Int)))=false →
 (-1:Int)=(a1r k)))))))
theorem f3w(k:Int):awp (a0x []) (a0i b0c) (d5s k) 0 (a1h (a0x []) b0c fun r=>a1e r [⟨(.int .i64),a1r k⟩]) (a0r b0c [.val ⟨(.int .i64),k⟩]) =
 ((((decide (k=(1:Int)))=true →
 (((decide (k=(1:Int)))=true →
 (0:Int)=(a1r k))∧((decide (k=(1:Int)))=false →
 (b5y k))))∧((decide (k=(1:Int)))=false →
 (((decide (k=(2:Int)))=true →
 (((decide (k=(2:Int)))=true →
 (0:Int)=(a1r k))∧((decide (k=(2:Int)))=false →
 (b5y k))))∧((decide (k=(2:Int)))=false →
 (((decide (k=(3:Int)))=true →
 (((decide (k=(3:Int)))=true →
 (0:Int)=(a1r k))∧((decide (k=(3:Int)))=false →
 (b5y k))))∧((decide (k=(3:Int)))=false →
 (((decide (k=(4:Int)))=true →
 (0:Int)=(a1r k))∧((decide (k=(4:Int)))=false →
 (b5y k)))))))))):=by kernel_rfl
theorem f2p(hE:a0p []):Ctr.Good b5b:=by
 refine⟨a0j d1q rfl (by decide),?_⟩
 show ∀ (k:Int),True→a1f prog c4n [.val ⟨(.int .i64),k⟩] (·=[⟨(.int .i64),a1r k⟩])
 intro k _
 refine a0z (wr:=[]) (cl:=[]) (ro:=[]) hE d1q e4z (d5s k) ?_
 rewrite [f3w k]
 refine⟨fun a0=>⟨fun a1=>?_,fun a1=>⟨fun a2=>?_,fun a2=>⟨fun a3=>⟨fun a4=>?_,fun a4=>?_⟩,fun a3=>⟨fun a4=>?_,fun a4=>?_⟩⟩⟩⟩,fun a0=>⟨fun a1=>⟨fun a2=>?_,fun a2=>⟨fun a3=>?_,fun a3=>⟨fun a4=>⟨fun a5=>?_,fun a5=>?_⟩,fun a4=>⟨fun a5=>?_,fun a5=>?_⟩⟩⟩⟩,fun a1=>⟨fun a2=>⟨fun a3=>?_,fun a3=>⟨fun a4=>?_,fun a4=>⟨fun a5=>⟨fun a6=>?_,fun a6=>?_⟩,fun a5=>⟨fun a6=>?_,fun a6=>?_⟩⟩⟩⟩,fun a2=>⟨fun a3=>?_,fun a3=>⟨fun a4=>?_,fun a4=>⟨fun a5=>⟨fun a6=>?_,fun a6=>?_⟩,fun a5=>⟨fun a6=>?_,fun a6=>?_⟩⟩⟩⟩⟩⟩⟩
 all_goals try and_intros
 all_goals first|rfl|trivial|grind [a1r]
theorem e5p:Ctr.Good b5b:=f2p trivial
def b4z:Ctr:=⟨c4l,[.v (.int .i64)],fun (k:Int)=>⟨(none,[⟨.bool,a2s k⟩])⟩⟩
def d5p(k:Int):Nat→a0t:=fun _ => .none
theorem f3t(k:Int):awp (a0x []) (a0i a9z) (d5p k) 0 (a1h (a0x []) a9z fun r=>a1e r [⟨.bool,a2s k⟩]) (a0r a9z [.val ⟨(.int .i64),k⟩]) =
 ((((decide (k=(4:Int)))=false →
 (((decide (k=(6:Int)))=false →
 (decide (k=(7:Int)))=(a2s k))∧((decide (k=(6:Int)))=(!false) →
 true=(a2s k))))∧((decide (k=(4:Int)))=(!false) →
 ((true=false →
 (decide (k=(7:Int)))=(a2s k))∧(true=(!false) →
 true=(a2s k)))))):=by kernel_rfl
theorem f2m(hE:a0p []):Ctr.Good b4z:=by
 refine⟨a0j d1o rfl (by decide),?_⟩
 show ∀ (k:Int),True→a1f prog c4l [.val ⟨(.int .i64),k⟩] (·=[⟨.bool,a2s k⟩])
 intro k _
 refine a0z (wr:=[]) (cl:=[]) (ro:=[]) hE d1o e4w (d5p k) ?_
 rewrite [f3t k]
 refine⟨fun a0=>⟨fun a1=>?_,fun a1=>?_⟩,fun a0=>⟨fun a1=>?_,fun a1=>?_⟩⟩
 all_goals try and_intros
 all_goals first|rfl|trivial|grind [a2s]
theorem e5m:Ctr.Good b4z:=f2m trivial
def b3a(n:Nat):Ctr:=⟨b9k,[.r (.st .prog), .v (.int .i64)],fun (x:a0a) (left:Int)=>⟨(some (msz x<n∧0≤left∧left≤1048576),[⟨(.int .i64),szR (a1g x) left⟩])⟩⟩
def b9c:Ctr:=⟨b9k,[.r (.st .prog), .v (.int .i64)],fun (x:a0a) (left:Int)=>⟨(some (0≤left∧left≤1048576),[⟨(.int .i64),szR (a1g x) left⟩])⟩⟩
def d5t(x:a0a)(left:Int):Nat→a0t:=(fun zb=>if Nat.beq zb 0 then .mk (Nat) (fun k=>k≤x.kids.length) (fun k=>x.kids.length - k) [] [2,3,6,7] (fun k=>[(5, .imm ⟨(.int .i64),((k:Int):Int)⟩),(1, .imm ⟨(.int .i64),(szR (1+szL a1g (x.kids.take k)) left:Int)⟩)]) [0,1,4,5,8,9,10,11,12,13,14,15,16,17,18,19,20,21,22,23,24,25,26,27,28,29] (fun k=>[]) [] [] (fun k=>fun _ => .none) else .none)
abbrev d0g(n:Nat)(x:a0a)(left:Int)(k1:Nat):Prop:=(x.kids.length≤140737488355328 →
 (a0h (k1:Int) x.kids.length∧((msz (x.kids.getD k1 zP)<n∧0≤(szR (1+szL a1g (x.kids.take k1)) left)∧(szR (1+szL a1g (x.kids.take k1)) left)≤1048576)∧(a0d (szR (a1g (x.kids.getD k1 zP)) (szR (1+szL a1g (x.kids.take k1)) left)) →
 (a0d ((k1:Int)+(1:Int))∧(∃ k2:Nat,(k2≤x.kids.length∧(x.kids.length - k2<x.kids.length - k1∧((x=x∧((szR (a1g (x.kids.getD k1 zP)) (szR (1+szL a1g (x.kids.take k1)) left))=(szR (1+szL a1g (x.kids.take k2)) left)∧((0:Int)=(0:Int)∧(((k1:Int)+(1:Int))=(k2:Int)∧True))))∧True)))))))))
theorem f3x(n:Nat)(x:a0a)(left:Int):awp (a0x [b3a n]) (a0i b0d) (d5t x left) 0 (a1h (a0x [b3a n]) b0d fun r=>a1e r [⟨(.int .i64),szR (a1g x) left⟩]) (a0r b0d [.ref ⟨(.st .prog),x⟩, .val ⟨(.int .i64),left⟩]) =
 ((a0d (left - (1:Int))∧((∃ k1:Nat,(k1≤x.kids.length∧((x=x∧((left - (1:Int))=(szR (1+szL a1g (x.kids.take k1)) left)∧((0:Int)=(0:Int)∧((0:Int)=(k1:Int)∧True))))∧True)))∧(∀ k1:Nat,(k1≤x.kids.length →
 (x.kids.length≤140737488355328 →
 (a0d ((x.kids.length:Int)) →
 (((decide ((k1:Int)<((x.kids.length:Int))))=true →
 (((decide ((0:Int)≤(szR (1+szL a1g (x.kids.take k1)) left)))=true →
 (d0g n x left k1))∧((decide ((0:Int)≤(szR (1+szL a1g (x.kids.take k1)) left)))=false →
 (szR (1+szL a1g (x.kids.take k1)) left)=(szR (a1g x) left))))∧((decide ((k1:Int)<((x.kids.length:Int))))=(!true) →
 ((false=true →
 (d0g n x left k1))∧(false=false →
 (szR (1+szL a1g (x.kids.take k1)) left)=(szR (a1g x) left)))))))))))):=by kernel_rfl
theorem f2q(n:Nat)(hE:a0p [b3a n]):Ctr.Good (b3a (n+1)):=by
 refine⟨a0j b7e rfl (by decide),?_⟩
 show ∀ (x:a0a) (left:Int),(msz x<n+1∧0≤left∧left≤1048576)→a1f prog b9k [.ref ⟨(.st .prog),x⟩, .val ⟨(.int .i64),left⟩] (·=[⟨(.int .i64),szR (a1g x) left⟩])
 intro x left hp
 refine a0z (wr:=[]) (cl:=[]) (ro:=[]) hE b7e e5a (d5t x left) ?_
 rewrite [f3x n x left]
 have f0:=b3j x
 have f1:=d8g a1g x.kids
 have f2:=b6s (1+szL a1g (x.kids.take 0)) left
 refine⟨?_,⟨⟨0,⟨?_,⟨⟨rfl,⟨?_,⟨rfl,⟨?_,trivial⟩⟩⟩⟩,trivial⟩⟩⟩,fun k1 a0=>have b0x0:=b8r a1g zP x.kids k1;have b0x1:=a6h a1g x.kids k1;have b0x2:=a6h a1g x.kids (k1+1);have b0x3:=c4x a1g x.kids k1;have b0x4:=a1w zP x.kids k1;have b0x5:=b6s (1+szL a1g (x.kids.take k1)) left;have b0x6:=b6s (1+szL a1g (x.kids.take (k1+1))) left;have b0x7:=b6s (a1g (x.kids.getD k1 zP)) (szR (1+szL a1g (x.kids.take k1)) left);have b0x8:=b6s (1+szL a1g x.kids) left;fun a1=>fun a2=>⟨fun a3=>⟨fun a4=>fun a5=>⟨?_,⟨?_,fun a6=>⟨?_,⟨k1+1,⟨?_,⟨?_,⟨⟨rfl,⟨?_,⟨rfl,⟨?_,trivial⟩⟩⟩⟩,trivial⟩⟩⟩⟩⟩⟩⟩,fun a4=>?_⟩,fun a3=>⟨fun a4=>fun a5=>⟨?_,⟨?_,fun a6=>⟨?_,⟨k1+1,⟨?_,⟨?_,⟨⟨rfl,⟨?_,⟨rfl,⟨?_,trivial⟩⟩⟩⟩,trivial⟩⟩⟩⟩⟩⟩⟩,fun a4=>?_⟩⟩⟩⟩
 all_goals try and_intros
 all_goals try rw[f7h x]
 all_goals first|rfl|trivial|omega|(simp only[decide_eq_true_eq,decide_eq_false_iff_not,a0h,a0d,a2j,a4q,a4a,a2p] at *;omega)|(simp[a0h,a0d] at *;omega)|grind
theorem f0i :∀ n,a0p [b3a n]
 | 0=>⟨⟨a0j b7e rfl (by decide),fun _ _ h=>absurd h.1 (Nat.not_lt_zero _)⟩,trivial⟩
 | n+1=>by
  have ih:=f0i  n
  exact⟨f2q n ⟨ih.1,trivial⟩,trivial⟩
theorem e5q :Ctr.Good b9c :=
 ⟨a0j b7e rfl (by decide),fun x left hp=>(f0i  (msz x+1)).1.2 x left (⟨Nat.lt_succ_self _,hp⟩)⟩
def b0v(n:Nat):Ctr:=⟨b7v,[.r (.st .prog)],fun (x:a0a)=>⟨(some (msz x<n∧a2e x≤1048576),[⟨(.int .i64),(a2e x:Int)⟩])⟩⟩
def b7o:Ctr:=⟨b7v,[.r (.st .prog)],fun (x:a0a)=>⟨(some (a2e x≤1048576),[⟨(.int .i64),(a2e x:Int)⟩])⟩⟩
def d2u(x:a0a):Nat→a0t:=(fun zb=>if Nat.beq zb 0 then .mk (Nat) (fun k=>k≤x.kids.length) (fun k=>x.kids.length - k) [] [1] (fun k=>[(4, .imm ⟨(.int .i64),((k:Int):Int)⟩),(3, .imm ⟨(.int .i64),((a3r a2e (x.kids.take k):Int):Int)⟩)]) [0,2,3,4,5,6,7,8,9,10,11,12,13,14,15,16,17,18,19,20,21,22,23,24] (fun k=>[]) [] [] (fun k=>fun _ => .none) else .none)
theorem e9y(n:Nat)(x:a0a):awp (a0x [b0v n,a6x]) (a0i a8o) (d2u x) 0 (a1h (a0x [b0v n,a6x]) a8o fun r=>a1e r [⟨(.int .i64),(a2e x:Int)⟩]) (a0r a8o [.ref ⟨(.st .prog),x⟩]) =
 (((∃ k1:Nat,(k1≤x.kids.length∧((x=x∧((0:Int)=(0:Int)∧((0:Int)=(a3r a2e (x.kids.take k1):Int)∧((0:Int)=(k1:Int)∧True))))∧True)))∧(∀ k1:Nat,(k1≤x.kids.length →
 (x.kids.length≤140737488355328 →
 (a0d ((x.kids.length:Int)) →
 (((decide ((k1:Int)<((x.kids.length:Int))))=true →
 (x.kids.length≤140737488355328 →
 (a0h (k1:Int) x.kids.length∧((msz (x.kids.getD k1 zP)<n∧a2e (x.kids.getD k1 zP)≤1048576)∧(a0d ((a2e (x.kids.getD k1 zP):Int)) →
 (a0d (max (a3r a2e (x.kids.take k1):Int) ((a2e (x.kids.getD k1 zP):Int))) →
 (a0d ((k1:Int)+(1:Int))∧(∃ k2:Nat,(k2≤x.kids.length∧(x.kids.length - k2<x.kids.length - k1∧((x=x∧((0:Int)=(0:Int)∧((max (a3r a2e (x.kids.take k1):Int) ((a2e (x.kids.getD k1 zP):Int)))=(a3r a2e (x.kids.take k2):Int)∧(((k1:Int)+(1:Int))=(k2:Int)∧True))))∧True)))))))))))∧((decide ((k1:Int)<((x.kids.length:Int))))=false →
 (a0d ((a3r a2e (x.kids.take k1):Int)+(1:Int))∧((a3r a2e (x.kids.take k1):Int)+(1:Int))=(a2e x:Int)))))))))):=by kernel_rfl
theorem e9h(n:Nat)(hE:a0p [b0v n,a6x]):Ctr.Good (b0v (n+1)):=by
 refine⟨a0j b5t rfl (by decide),?_⟩
 show ∀ (x:a0a),(msz x<n+1∧a2e x≤1048576)→a1f prog b7v [.ref ⟨(.st .prog),x⟩] (·=[⟨(.int .i64),(a2e x:Int)⟩])
 intro x hp
 refine a0z (wr:=[]) (cl:=[]) (ro:=[]) hE b5t e1k (d2u x) ?_
 rewrite [e9y n x]
 rw[e1t x] at hp
 have f0:=b3j x
 have f1:=d3b a2e x.kids
 refine⟨⟨0,⟨?_,⟨⟨rfl,⟨rfl,⟨?_,⟨?_,trivial⟩⟩⟩⟩,trivial⟩⟩⟩,fun k1 a0=>have b0x0:=b5k a2e zP x.kids k1;have b0x1:=a5l a2e x.kids k1;have b0x2:=a5l a2e x.kids (k1+1);have b0x3:=c1b a2e x.kids k1;have b0x4:=a1w zP x.kids k1;have b0x5:=e3b a2e zP x.kids k1;fun a1=>fun a2=>⟨fun a3=>fun a4=>⟨?_,⟨?_,fun a5=>fun a6=>⟨?_,⟨k1+1,⟨?_,⟨?_,⟨⟨rfl,⟨rfl,⟨?_,⟨?_,trivial⟩⟩⟩⟩,trivial⟩⟩⟩⟩⟩⟩⟩,fun a3=>⟨?_,?_⟩⟩⟩
 all_goals try and_intros
 all_goals try rw[e1t x]
 all_goals first|rfl|trivial|omega|(simp only[decide_eq_true_eq,decide_eq_false_iff_not,a0h,a0d,a2j,a4q,a4a,a2p] at *;omega)|(simp[a0h,a0d] at *;omega)|grind
theorem e6k :∀ n,a0p [b0v n]
 | 0=>⟨⟨a0j b5t rfl (by decide),fun _ h=>absurd h.1 (Nat.not_lt_zero _)⟩,trivial⟩
 | n+1=>by
  have ih:=e6k  n
  exact⟨e9h n ⟨ih.1,c9z,trivial⟩,trivial⟩
theorem e2l :Ctr.Good b7o :=
 ⟨a0j b5t rfl (by decide),fun x hp=>(e6k  (msz x+1)).1.2 x (⟨Nat.lt_succ_self _,hp⟩)⟩
def b0s(n:Nat):Ctr:=⟨b7r,[.v (.st .sig), .v (.st .prog), .v (.int .i64), .v (.int .i64)],fun (gg:a0l) (x:a0a) (nodes:Int) (depth:Int)=>⟨(some (msz x<n∧a1y gg=true∧0≤nodes∧nodes≤1048576∧0≤depth∧depth≤1048576),[⟨(.int .i64),b5i gg x nodes depth⟩,⟨.bool,a9m gg x nodes depth⟩])⟩⟩
def b7l:Ctr:=⟨b7r,[.v (.st .sig), .v (.st .prog), .v (.int .i64), .v (.int .i64)],fun (gg:a0l) (x:a0a) (nodes:Int) (depth:Int)=>⟨(some (a1y gg=true∧0≤nodes∧nodes≤1048576∧0≤depth∧depth≤1048576),[⟨(.int .i64),b5i gg x nodes depth⟩,⟨.bool,a9m gg x nodes depth⟩])⟩⟩
def d2o(gg:a0l)(x:a0a)(nodes:Int)(depth:Int):Nat→a0t:=(fun zb=>if Nat.beq zb 100004 then .mk (Unit) (fun u=>a1r x.kind=(x.kids.length:Int)∧1≤nodes∧1≤depth) (fun u=>0) [] [0,1,6,7,10,12,16,17,18,19,20,21,22,23,24,25,26,27,28,29,30,31,32,33,34] (fun u=>[]) [2,3,4,5,8,9,11,13,14,15,35,36,37,38,39,40,41,42,43,44,45,46,47,48,49,50,51,52,53,54,55,56,57,58,59,60,61,62,63,64,65,66,67,68,69,70,71,72,73,74,75,76,77,78,79,80,81,82,83,84,85,86,87,88,89,90,91,92,93,94,95,96,97] (fun u=>[]) [] [] (fun u=>(fun zb=>if Nat.beq zb 100006 then .mk (Unit) (fun u=>a1r x.kind=(x.kids.length:Int)∧1≤nodes∧1≤depth∧a8t gg x=true) (fun u=>0) [] [0,1,6,7,10,11,12,16,17,18,19,20,21,22,23,24,25,26,27,28,29,30,31,32,33,34,35,36,37,38,39,40,41,42,43,44,45,46,47,48,49,50,51,52] (fun u=>[]) [2,3,4,5,8,9,13,14,15,53,54,55,56,57,58,59,60,61,62,63,64,65,66,67,68,69,70,71,72,73,74,75,76,77,78,79,80,81,82,83,84,85,86,87,88,89,90,91,92,93,94,95,96,97] (fun u=>[]) [] [] (fun u=>(fun zb=>if Nat.beq zb 100008 then .mk (Unit) (fun u=>c0p gg x=true∧1≤nodes∧1≤depth) (fun u=>0) [] [0,1,6,7,10,11,12,16,17,18,19,20,21,22,23,24,25,26,27,28,29,30,31,32,33,34,35,36,37,38,39,40,41,42,43,44,45,46,47,48,49,50,51,52,53,54,55,56,57,58,59,60,61,62,63,64,65,66,67,68,69,70,71,72,73,74] (fun u=>[]) [2,3,4,5,8,9,13,14,15,75,76,77,78,79,80,81,82,83,84,85,86,87,88,89,90,91,92,93,94,95,96,97] (fun u=>[]) [] [] (fun u=>(fun zb=>if Nat.beq zb 0 then .mk (Nat) (fun k=>k≤x.kids.length∧a2r (a1d gg) (x.kids.take k)=true∧1+(szL a1g (x.kids.take k):Int)≤nodes∧1+(a3r a2e (x.kids.take k):Int)≤depth) (fun k=>x.kids.length - k) [] [0,1,5,6,7,10,11,12,16,17,18,19,20,21,22,23,24,25,26,27,28,29,30,31,32,33,34,35,36,37,38,39,40,41,42,43,44,45,46,47,48,49,50,51,52,53,54,55,56,57,58,59,60,61,62,63,64,65,66,67,68,69,70,71,72,73,74,75,76,77] (fun k=>[(80, .imm ⟨(.int .i64),((k:Int):Int)⟩),(2, .imm ⟨(.int .i64),(nodes - (1+(szL a1g (x.kids.take k):Int)):Int)⟩)]) [2,3,4,8,9,13,14,15,78,79,80,81,82,83,84,85,86,87,88,89,90,91,92,93,94,95,96,97] (fun k=>[]) [] [] (fun k=>fun _ => .none) else .none)) else .none)) else .none)) else .none)
abbrev c7t(gg:a0l)(x:a0a)(nodes:Int)(depth:Int):Prop:=(∃ u1:Unit,((a1r x.kind=(x.kids.length:Int)∧1≤nodes∧1≤depth)∧((nodes=nodes∧(depth=depth∧(gg=gg∧(x=x∧((a2s x.kind)=(a2s x.kind)∧True)))))∧True)))
abbrev c7u(gg:a0l)(x:a0a)(nodes:Int)(depth:Int):Prop:=(x.kids.length≤140737488355328 →
 (a0d ((x.kids.length:Int)) →
 (((!(decide ((a1r x.kind)=((x.kids.length:Int)))))=true →
 ((0:Int)=(b5i gg x nodes depth)∧false=(a9m gg x nodes depth)))∧((!(decide ((a1r x.kind)=((x.kids.length:Int)))))=false →
 (c7t gg x nodes depth)))))
abbrev c7v(gg:a0l)(x:a0a)(nodes:Int)(depth:Int):Prop:=((true=true →
 ((0:Int)=(b5i gg x nodes depth)∧false=(a9m gg x nodes depth)))∧(true=false →
 (c7t gg x nodes depth)))
abbrev b9w(gg:a0l)(x:a0a)(nodes:Int)(depth:Int):Prop:=(∃ u2:Unit,((a1r x.kind=(x.kids.length:Int)∧1≤nodes∧1≤depth∧a8t gg x=true)∧((nodes=nodes∧(depth=depth∧(gg=gg∧(x=x∧True))))∧True)))
abbrev c7w(gg:a0l)(x:a0a)(nodes:Int)(depth:Int):Prop:=(((!(a2s x.kind))=true →
 (((!(a4o x.cond))=true →
 ((0:Int)=(b5i gg x nodes depth)∧false=(a9m gg x nodes depth)))∧((!(a4o x.cond))=false →
 (b9w gg x nodes depth))))∧((!(a2s x.kind))=(!true) →
 ((false=true →
 ((0:Int)=(b5i gg x nodes depth)∧false=(a9m gg x nodes depth)))∧(false=false →
 (b9w gg x nodes depth)))))
abbrev c7x(gg:a0l)(x:a0a)(nodes:Int)(depth:Int):Prop:=((true=true →
 ((0:Int)=(b5i gg x nodes depth)∧false=(a9m gg x nodes depth)))∧(true=false →
 (b9w gg x nodes depth)))
abbrev b9x(gg:a0l)(x:a0a)(nodes:Int)(depth:Int):Prop:=(∃ u3:Unit,((c0p gg x=true∧1≤nodes∧1≤depth)∧((nodes=nodes∧(depth=depth∧(gg=gg∧(x=x∧True))))∧True)))
abbrev c7y(gg:a0l)(x:a0a)(nodes:Int)(depth:Int):Prop:=(a0d x.kind →
 (((!(decide (x.kind=(3:Int))))=true →
 (a0d x.num →
 (((!(decide (x.num=(0:Int))))=true →
 ((0:Int)=(b5i gg x nodes depth)∧false=(a9m gg x nodes depth)))∧((!(decide (x.num=(0:Int))))=false →
 (b9x gg x nodes depth)))))∧((!(decide (x.kind=(3:Int))))=(!true) →
 ((false=true →
 ((0:Int)=(b5i gg x nodes depth)∧false=(a9m gg x nodes depth)))∧(false=false →
 (b9x gg x nodes depth))))))
abbrev c7z(gg:a0l)(x:a0a)(nodes:Int)(depth:Int):Prop:=((true=true →
 ((0:Int)=(b5i gg x nodes depth)∧false=(a9m gg x nodes depth)))∧(true=false →
 (b9x gg x nodes depth)))
theorem e9s(n:Nat)(gg:a0l)(x:a0a)(nodes:Int)(depth:Int):awp (a0x [b0s n,b2t,a7u,b6k,a2u] [] [] [4,5]) (a0i a8i) (d2o gg x nodes depth) 0 (a1h (a0x [b0s n,b2t,a7u,b6k,a2u] [] [] [4,5]) a8i fun r=>a1e r [⟨(.int .i64),b5i gg x nodes depth⟩,⟨.bool,a9m gg x nodes depth⟩]) (a0r a8i [.val ⟨(.st .sig),gg⟩, .val ⟨(.st .prog),x⟩, .val ⟨(.int .i64),nodes⟩, .val ⟨(.int .i64),depth⟩]) =
 ((a0d x.kind →
 (a0d (a1r x.kind) →
 ((((decide (nodes=(0:Int)))=false →
 (((decide (depth=(0:Int)))=false →
 (c7u gg x nodes depth))∧((decide (depth=(0:Int)))=(!false) →
 (c7v gg x nodes depth))))∧((decide (nodes=(0:Int)))=(!false) →
 ((true=false →
 (c7u gg x nodes depth))∧(true=(!false) →
 (c7v gg x nodes depth)))))∧(∀ u1:Unit,((a1r x.kind=(x.kids.length:Int)∧1≤nodes∧1≤depth) →
 ((((a2s x.kind)=true →
 (((!(isC gg x.cond))=false →
 (c7w gg x nodes depth))∧((!(isC gg x.cond))=(!false) →
 (c7x gg x nodes depth))))∧((a2s x.kind)=(!true) →
 ((false=false →
 (c7w gg x nodes depth))∧(false=(!false) →
 (c7x gg x nodes depth)))))∧(∀ u2:Unit,((a1r x.kind=(x.kids.length:Int)∧1≤nodes∧1≤depth∧a8t gg x=true) →
 ((a0d x.kind →
 (((decide (x.kind=(3:Int)))=true →
 (a0d x.num →
 (a0d gg.actions →
 (a0d (gg.actions - (1:Int))∧((((!(decide ((0:Int)≤x.num∧x.num≤(gg.actions - (1:Int)))))=false) →
 (c7y gg x nodes depth))∧(((!(decide ((0:Int)≤x.num∧x.num≤(gg.actions - (1:Int)))))=(!false)) →
 (c7z gg x nodes depth)))))))∧((decide (x.kind=(3:Int)))=(!true) →
 ((false=false →
 (c7y gg x nodes depth))∧(false=(!false) →
 (c7z gg x nodes depth))))))∧(∀ u3:Unit,((c0p gg x=true∧1≤nodes∧1≤depth) →
 (a0d (nodes - (1:Int))∧(x.kids.length≤140737488355328 →
 (a0d ((x.kids.length:Int)) →
 ((∃ k4:Nat,((k4≤x.kids.length∧a2r (a1d gg) (x.kids.take k4)=true∧1+(szL a1g (x.kids.take k4):Int)≤nodes∧1+(a3r a2e (x.kids.take k4):Int)≤depth)∧(((nodes - (1:Int))=(nodes - (1+(szL a1g (x.kids.take k4):Int)))∧(depth=depth∧(gg=gg∧(x.kids=x.kids∧(((x.kids.length:Int))=((x.kids.length:Int))∧((0:Int)=(k4:Int)∧True))))))∧True)))∧(∀ k4:Nat,((k4≤x.kids.length∧a2r (a1d gg) (x.kids.take k4)=true∧1+(szL a1g (x.kids.take k4):Int)≤nodes∧1+(a3r a2e (x.kids.take k4):Int)≤depth) →
 (((decide ((k4:Int)<((x.kids.length:Int))))=true →
 (a0h (k4:Int) x.kids.length∧(a0d (depth - (1:Int))∧((msz (a0g (x.kids.getD k4 zP))<n∧a1y gg=true∧0≤(nodes - (1+(szL a1g (x.kids.take k4):Int)))∧(nodes - (1+(szL a1g (x.kids.take k4):Int)))≤1048576∧0≤(depth - (1:Int))∧(depth - (1:Int))≤1048576)∧(a0d (b5i gg (a0g (x.kids.getD k4 zP)) (nodes - (1+(szL a1g (x.kids.take k4):Int))) (depth - (1:Int))) →
 (((!(a9m gg (a0g (x.kids.getD k4 zP)) (nodes - (1+(szL a1g (x.kids.take k4):Int))) (depth - (1:Int))))=true →
 ((0:Int)=(b5i gg x nodes depth)∧false=(a9m gg x nodes depth)))∧((!(a9m gg (a0g (x.kids.getD k4 zP)) (nodes - (1+(szL a1g (x.kids.take k4):Int))) (depth - (1:Int))))=false →
 (a0d ((k4:Int)+(1:Int))∧(∃ k5:Nat,((k5≤x.kids.length∧a2r (a1d gg) (x.kids.take k5)=true∧1+(szL a1g (x.kids.take k5):Int)≤nodes∧1+(a3r a2e (x.kids.take k5):Int)≤depth)∧(x.kids.length - k5<x.kids.length - k4∧(((b5i gg (a0g (x.kids.getD k4 zP)) (nodes - (1+(szL a1g (x.kids.take k4):Int))) (depth - (1:Int)))=(nodes - (1+(szL a1g (x.kids.take k5):Int)))∧(depth=depth∧(gg=gg∧(x.kids=x.kids∧(((x.kids.length:Int))=((x.kids.length:Int))∧(((k4:Int)+(1:Int))=(k5:Int)∧True))))))∧True))))))))))))∧((decide ((k4:Int)<((x.kids.length:Int))))=false →
 ((nodes - (1+(szL a1g (x.kids.take k4):Int)))=(b5i gg x nodes depth)∧true=(a9m gg x nodes depth)))))))))))))))))))))):=by kernel_rfl
theorem e9b(n:Nat)(hE:a0p [b0s n,b2t,a7u,b6k,a2u]):Ctr.Good (b0s (n+1)):=by
 refine⟨a0j b5q rfl (by decide),?_⟩
 show ∀ (gg:a0l) (x:a0a) (nodes:Int) (depth:Int),(msz x<n+1∧a1y gg=true∧0≤nodes∧nodes≤1048576∧0≤depth∧depth≤1048576)→a1f prog b7r [.val ⟨(.st .sig),gg⟩, .val ⟨(.st .prog),x⟩, .val ⟨(.int .i64),nodes⟩, .val ⟨(.int .i64),depth⟩] (·=[⟨(.int .i64),b5i gg x nodes depth⟩,⟨.bool,a9m gg x nodes depth⟩])
 intro gg x nodes depth hp
 refine a0z (wr:=[]) (cl:=[]) (ro:=[4,5]) hE b5q e1e (d2o gg x nodes depth) ?_
 rewrite [e9s n gg x nodes depth]
 have fg:=e7b gg hp.2.1
 have fs:=f3d gg x nodes depth
 rw[b8s gg x,f7h x,e1t x] at fs
 have f0:=b3j x
 have f1:=d8g a1g x.kids
 have f2:=d3b a2e x.kids
 have f3:=c4b (a1d gg) x.kids
 refine fun a0=>fun a1=>⟨⟨fun a2=>⟨fun a3=>fun a4=>fun a5=>⟨fun a6=>⟨?_,?_⟩,fun a6=>⟨(),⟨?_,⟨⟨rfl,⟨rfl,⟨rfl,⟨rfl,⟨rfl,trivial⟩⟩⟩⟩⟩,trivial⟩⟩⟩⟩,fun a3=>⟨fun a4=>⟨?_,?_⟩,fun a4=>⟨(),⟨?_,⟨⟨rfl,⟨rfl,⟨rfl,⟨rfl,⟨rfl,trivial⟩⟩⟩⟩⟩,trivial⟩⟩⟩⟩⟩,fun a2=>⟨fun a3=>fun a4=>fun a5=>⟨fun a6=>⟨?_,?_⟩,fun a6=>⟨(),⟨?_,⟨⟨rfl,⟨rfl,⟨rfl,⟨rfl,⟨rfl,trivial⟩⟩⟩⟩⟩,trivial⟩⟩⟩⟩,fun a3=>⟨fun a4=>⟨?_,?_⟩,fun a4=>⟨(),⟨?_,⟨⟨rfl,⟨rfl,⟨rfl,⟨rfl,⟨rfl,trivial⟩⟩⟩⟩⟩,trivial⟩⟩⟩⟩⟩⟩,fun u1=>fun a2=>⟨⟨fun a3=>⟨fun a4=>⟨fun a5=>⟨fun a6=>⟨?_,?_⟩,fun a6=>⟨(),⟨?_,⟨⟨rfl,⟨rfl,⟨rfl,⟨rfl,trivial⟩⟩⟩⟩,trivial⟩⟩⟩⟩,fun a5=>⟨fun a6=>⟨?_,?_⟩,fun a6=>⟨(),⟨?_,⟨⟨rfl,⟨rfl,⟨rfl,⟨rfl,trivial⟩⟩⟩⟩,trivial⟩⟩⟩⟩⟩,fun a4=>⟨fun a5=>⟨?_,?_⟩,fun a5=>⟨(),⟨?_,⟨⟨rfl,⟨rfl,⟨rfl,⟨rfl,trivial⟩⟩⟩⟩,trivial⟩⟩⟩⟩⟩,fun a3=>⟨fun a4=>⟨fun a5=>⟨fun a6=>⟨?_,?_⟩,fun a6=>⟨(),⟨?_,⟨⟨rfl,⟨rfl,⟨rfl,⟨rfl,trivial⟩⟩⟩⟩,trivial⟩⟩⟩⟩,fun a5=>⟨fun a6=>⟨?_,?_⟩,fun a6=>⟨(),⟨?_,⟨⟨rfl,⟨rfl,⟨rfl,⟨rfl,trivial⟩⟩⟩⟩,trivial⟩⟩⟩⟩⟩,fun a4=>⟨fun a5=>⟨?_,?_⟩,fun a5=>⟨(),⟨?_,⟨⟨rfl,⟨rfl,⟨rfl,⟨rfl,trivial⟩⟩⟩⟩,trivial⟩⟩⟩⟩⟩⟩,fun u2=>fun a3=>⟨fun a4=>⟨fun a5=>fun a6=>fun a7=>⟨?_,⟨fun a8=>fun a9=>⟨fun a10=>fun a11=>⟨fun a12=>⟨?_,?_⟩,fun a12=>⟨(),⟨?_,⟨⟨rfl,⟨rfl,⟨rfl,⟨rfl,trivial⟩⟩⟩⟩,trivial⟩⟩⟩⟩,fun a10=>⟨fun a11=>⟨?_,?_⟩,fun a11=>⟨(),⟨?_,⟨⟨rfl,⟨rfl,⟨rfl,⟨rfl,trivial⟩⟩⟩⟩,trivial⟩⟩⟩⟩⟩,fun a8=>⟨fun a9=>⟨?_,?_⟩,fun a9=>⟨(),⟨?_,⟨⟨rfl,⟨rfl,⟨rfl,⟨rfl,trivial⟩⟩⟩⟩,trivial⟩⟩⟩⟩⟩⟩,fun a5=>⟨fun a6=>fun a7=>⟨fun a8=>fun a9=>⟨fun a10=>⟨?_,?_⟩,fun a10=>⟨(),⟨?_,⟨⟨rfl,⟨rfl,⟨rfl,⟨rfl,trivial⟩⟩⟩⟩,trivial⟩⟩⟩⟩,fun a8=>⟨fun a9=>⟨?_,?_⟩,fun a9=>⟨(),⟨?_,⟨⟨rfl,⟨rfl,⟨rfl,⟨rfl,trivial⟩⟩⟩⟩,trivial⟩⟩⟩⟩⟩,fun a6=>⟨fun a7=>⟨?_,?_⟩,fun a7=>⟨(),⟨?_,⟨⟨rfl,⟨rfl,⟨rfl,⟨rfl,trivial⟩⟩⟩⟩,trivial⟩⟩⟩⟩⟩⟩,fun u3=>fun a4=>⟨?_,fun a5=>fun a6=>⟨⟨0,⟨?_,⟨⟨?_,⟨rfl,⟨rfl,⟨rfl,⟨rfl,⟨?_,trivial⟩⟩⟩⟩⟩⟩,trivial⟩⟩⟩,fun k4 a7=>have b7x0:=a4t (a1d gg) zP x.kids k4;have b7x1:=a5i (a1d gg) zP x.kids k4;have b7x2:=a4s (a1d gg) x.kids k4;have b7x3:=a1w zP x.kids k4;have b7x4:=b8r a1g zP x.kids k4;have b7x5:=a6h a1g x.kids (k4+1);have b7x6:=c4x a1g x.kids k4;have b7x7:=b5k a2e zP x.kids k4;have b7x8:=a5l a2e x.kids (k4+1);have b7x9:=c1b a2e x.kids k4;have b7x10:=f3d gg (x.kids.getD k4 zP) (nodes - (1+(szL a1g (x.kids.take k4):Int))) (depth - 1);⟨fun a8=>⟨?_,⟨?_,⟨?_,fun a9=>⟨fun a10=>⟨?_,?_⟩,fun a10=>⟨?_,⟨k4+1,⟨?_,⟨?_,⟨⟨?_,⟨rfl,⟨rfl,⟨rfl,⟨rfl,⟨?_,trivial⟩⟩⟩⟩⟩⟩,trivial⟩⟩⟩⟩⟩⟩⟩⟩⟩,fun a8=>⟨?_,?_⟩⟩⟩⟩⟩⟩⟩
 all_goals try and_intros
 all_goals try simp only[a0b.eta,a0a.eta,a2b,a2d] at *
 all_goals (first|rfl|trivial|(simp only[decide_eq_true_eq,decide_eq_false_iff_not,a0h,a0d] at *;omega)|(rcases fs with ⟨t1,t2,t3,t4,t5⟩|⟨t1,t4,t5⟩<;>(try rw[t4])<;>(try rw[t5])<;>clear t4 t5<;>simp only[decide_eq_true_eq,decide_eq_false_iff_not,c0w,a8u,a8t,Bool.and_eq_true,Bool.and_eq_false_iff,Bool.not_eq_true',Bool.not_eq_false',a0d] at *<;>first|rfl|omega|grind|grind [a1r]))
theorem f0h :∀ n,a0p [b0s n]
 | 0=>⟨⟨a0j b5q rfl (by decide),fun _ _ _ _ h=>absurd h.1 (Nat.not_lt_zero _)⟩,trivial⟩
 | n+1=>by
  have ih:=f0h  n
  exact⟨e9b n ⟨ih.1,e2g,d5e,e8k,b0m,trivial⟩,trivial⟩
theorem e2f :Ctr.Good b7l :=
 ⟨a0j b5q rfl (by decide),fun gg x nodes depth hp=>(f0h  (msz x+1)).1.2 gg x nodes depth (⟨Nat.lt_succ_self _,hp⟩)⟩
def b3c(n:Nat):Ctr:=⟨b9m,[.v (.st .sig), .r (.st .prog)],fun (gg:a0l) (x:a0a)=>⟨(some (msz x<n∧a1y gg=true),[⟨.bool,a1d gg x⟩])⟩⟩
def b9d:Ctr:=⟨b9m,[.v (.st .sig), .r (.st .prog)],fun (gg:a0l) (x:a0a)=>⟨(some (a1y gg=true),[⟨.bool,a1d gg x⟩])⟩⟩
def d5w(gg:a0l)(x:a0a):Nat→a0t:=(fun zb=>if Nat.beq zb 100003 then .mk (Unit) (fun u=>a1r x.kind=(x.kids.length:Int)) (fun u=>0) [] [0,3,6,7,8,9,10,11,12,13,14,15,16] (fun u=>[]) [1,2,4,5,17,18,19,20,21,22,23,24,25,26,27,28,29,30,31,32,33,34,35,36,37,38,39,40,41,42,43,44,45,46,47,48,49,50,51,52,53,54,55,56,57,58,59,60,61,62,63,64,65,66,67,68,69,70,71,72,73,74,75,76,77,78,79,80,81,82,83,84,85,86,87,88,89,90,91,92] (fun u=>[]) [] [] (fun u=>(fun zb=>if Nat.beq zb 100005 then .mk (Unit) (fun u=>a1r x.kind=(x.kids.length:Int)∧a8u gg x=true) (fun u=>0) [] [0,3,6,7,8,9,10,11,12,13,14,15,16,17,18,19,20,21,22,23,24,25,26,27,28,29,30,31,32,33,34,35,36,37,38,39,40,41,42,43,44,45,46] (fun u=>[]) [1,2,4,5,47,48,49,50,51,52,53,54,55,56,57,58,59,60,61,62,63,64,65,66,67,68,69,70,71,72,73,74,75,76,77,78,79,80,81,82,83,84,85,86,87,88,89,90,91,92] (fun u=>[]) [] [] (fun u=>(fun zb=>if Nat.beq zb 100007 then .mk (Unit) (fun u=>c0p gg x=true) (fun u=>0) [] [0,3,6,7,8,9,10,11,12,13,14,15,16,17,18,19,20,21,22,23,24,25,26,27,28,29,30,31,32,33,34,35,36,37,38,39,40,41,42,43,44,45,46,47,48,49,50,51,52,53,54,55,56,57,58,59,60,61,62,63,64,65,66,67,68,69,70,71,72,73,74] (fun u=>[]) [1,2,4,5,75,76,77,78,79,80,81,82,83,84,85,86,87,88,89,90,91,92] (fun u=>[]) [] [] (fun u=>(fun zb=>if Nat.beq zb 0 then .mk (Nat) (fun k=>k≤x.kids.length∧a2r (a1d gg) (x.kids.take k)=true) (fun k=>x.kids.length - k) [] [0,3,6,7,8,9,10,11,12,13,14,15,16,17,18,19,20,21,22,23,24,25,26,27,28,29,30,31,32,33,34,35,36,37,38,39,40,41,42,43,44,45,46,47,48,49,50,51,52,53,54,55,56,57,58,59,60,61,62,63,64,65,66,67,68,69,70,71,72,73,74] (fun k=>[(5, .imm ⟨(.int .i64),((k:Int):Int)⟩)]) [1,2,4,5,75,76,77,78,79,80,81,82,83,84,85,86,87,88,89,90,91,92] (fun k=>[]) [] [] (fun k=>fun _ => .none) else .none)) else .none)) else .none)) else .none)
abbrev d0j(gg:a0l)(x:a0a):Prop:=(a0d x.kind →
 (((!(decide (x.kind=(3:Int))))=true →
 (a0d x.num →
 (((!(decide (x.num=(0:Int))))=true →
 false=(a1d gg x))∧((!(decide (x.num=(0:Int))))=false →
 (∃ u2:Unit,((a1r x.kind=(x.kids.length:Int)∧a8u gg x=true)∧((x=x∧(gg=gg∧True))∧True)))))))∧((!(decide (x.kind=(3:Int))))=(!true) →
 ((false=true →
 false=(a1d gg x))∧(false=false →
 (∃ u2:Unit,((a1r x.kind=(x.kids.length:Int)∧a8u gg x=true)∧((x=x∧(gg=gg∧True))∧True))))))))
abbrev d0k(gg:a0l)(x:a0a):Prop:=((true=true →
 false=(a1d gg x))∧(true=false →
 (∃ u2:Unit,((a1r x.kind=(x.kids.length:Int)∧a8u gg x=true)∧((x=x∧(gg=gg∧True))∧True)))))
abbrev d0l(gg:a0l)(x:a0a):Prop:=(a0d x.kind →
 (((!(a2s x.kind))=true →
 (((!(a4o x.cond))=true →
 false=(a1d gg x))∧((!(a4o x.cond))=false →
 (∃ u3:Unit,(c0p gg x=true∧((x=x∧(gg=gg∧True))∧True))))))∧((!(a2s x.kind))=(!true) →
 ((false=true →
 false=(a1d gg x))∧(false=false →
 (∃ u3:Unit,(c0p gg x=true∧((x=x∧(gg=gg∧True))∧True))))))))
theorem f4a(n:Nat)(gg:a0l)(x:a0a):awp (a0x [b3c n,b5b,a3q,b4z,b5a,b5c] [] [] [2]) (a0i b0i) (d5w gg x) 0 (a1h (a0x [b3c n,b5b,a3q,b4z,b5a,b5c] [] [] [2]) b0i fun r=>a1e r [⟨.bool,a1d gg x⟩]) (a0r b0i [.val ⟨(.st .sig),gg⟩, .ref ⟨(.st .prog),x⟩]) =
 (((x.kids.length≤140737488355328 →
 (a0d ((x.kids.length:Int)) →
 (a0d x.kind →
 (a0d (a1r x.kind) →
 (((!(decide (((x.kids.length:Int))=(a1r x.kind))))=true →
 false=(a1d gg x))∧((!(decide (((x.kids.length:Int))=(a1r x.kind))))=false →
 (∃ u1:Unit,(a1r x.kind=(x.kids.length:Int)∧((x=x∧(gg=gg∧True))∧True)))))))))∧(∀ u1:Unit,(a1r x.kind=(x.kids.length:Int) →
 ((((decide (x.kind=(3:Int)))=true →
 (a0d (gg.actions - (1:Int))∧(a0d x.kind →
 (a0d x.num →
 (a0d gg.actions →
 ((((!(decide ((0:Int)≤x.num∧x.num≤(gg.actions - (1:Int)))))=false) →
 (d0j gg x))∧(((!(decide ((0:Int)≤x.num∧x.num≤(gg.actions - (1:Int)))))=(!false)) →
 (d0k gg x))))))))∧((decide (x.kind=(3:Int)))=(!true) →
 (a0d x.kind →
 ((false=false →
 (d0j gg x))∧(false=(!false) →
 (d0k gg x))))))∧(∀ u2:Unit,((a1r x.kind=(x.kids.length:Int)∧a8u gg x=true) →
 ((((a2s x.kind)=true →
 (a0d x.kind →
 (((!(okC gg x.cond))=false →
 (d0l gg x))∧((!(okC gg x.cond))=(!false) →
 ((true=true →
 false=(a1d gg x))∧(true=false →
 (∃ u3:Unit,(c0p gg x=true∧((x=x∧(gg=gg∧True))∧True)))))))))∧((a2s x.kind)=(!true) →
 (a0d x.kind →
 ((false=false →
 (d0l gg x))∧(false=(!false) →
 ((true=true →
 false=(a1d gg x))∧(true=false →
 (∃ u3:Unit,(c0p gg x=true∧((x=x∧(gg=gg∧True))∧True))))))))))∧(∀ u3:Unit,(c0p gg x=true →
 ((∃ k4:Nat,((k4≤x.kids.length∧a2r (a1d gg) (x.kids.take k4)=true)∧((x=x∧(gg=gg∧((0:Int)=(k4:Int)∧True)))∧True)))∧(∀ k4:Nat,((k4≤x.kids.length∧a2r (a1d gg) (x.kids.take k4)=true) →
 (x.kids.length≤140737488355328 →
 (a0d ((x.kids.length:Int)) →
 (((decide ((k4:Int)<((x.kids.length:Int))))=true →
 (a0h (k4:Int) x.kids.length∧(x.kids.length≤140737488355328 →
 ((msz (x.kids.getD k4 zP)<n∧a1y gg=true)∧(((!(a1d gg (x.kids.getD k4 zP)))=true →
 false=(a1d gg x))∧((!(a1d gg (x.kids.getD k4 zP)))=false →
 (a0d ((k4:Int)+(1:Int))∧(∃ k5:Nat,((k5≤x.kids.length∧a2r (a1d gg) (x.kids.take k5)=true)∧(x.kids.length - k5<x.kids.length - k4∧((x=x∧(gg=gg∧(((k4:Int)+(1:Int))=(k5:Int)∧True)))∧True)))))))))))∧((decide ((k4:Int)<((x.kids.length:Int))))=false →
 true=(a1d gg x)))))))))))))))))):=by kernel_rfl
theorem f2t(n:Nat)(hE:a0p [b3c n,b5b,a3q,b4z,b5a,b5c]):Ctr.Good (b3c (n+1)):=by
 refine⟨a0j b7g rfl (by decide),?_⟩
 show ∀ (gg:a0l) (x:a0a),(msz x<n+1∧a1y gg=true)→a1f prog b9m [.val ⟨(.st .sig),gg⟩, .ref ⟨(.st .prog),x⟩] (·=[⟨.bool,a1d gg x⟩])
 intro gg x hp
 refine a0z (wr:=[]) (cl:=[]) (ro:=[2]) hE b7g e5f (d5w gg x) ?_
 rewrite [f4a n gg x]
 have fg:=e7b gg hp.2
 have f0:=b3j x
 have f1:=c4b (a1d gg) x.kids
 refine⟨fun a0=>fun a1=>fun a2=>fun a3=>⟨fun a4=>?_,fun a4=>⟨(),⟨?_,⟨⟨rfl,⟨rfl,trivial⟩⟩,trivial⟩⟩⟩⟩,fun u1=>fun a0=>⟨⟨fun a1=>⟨?_,fun a2=>fun a3=>fun a4=>⟨fun a5=>fun a6=>⟨fun a7=>fun a8=>⟨fun a9=>?_,fun a9=>⟨(),⟨?_,⟨⟨rfl,⟨rfl,trivial⟩⟩,trivial⟩⟩⟩⟩,fun a7=>⟨fun a8=>?_,fun a8=>⟨(),⟨?_,⟨⟨rfl,⟨rfl,trivial⟩⟩,trivial⟩⟩⟩⟩⟩,fun a5=>⟨fun a6=>?_,fun a6=>⟨(),⟨?_,⟨⟨rfl,⟨rfl,trivial⟩⟩,trivial⟩⟩⟩⟩⟩⟩,fun a1=>fun a2=>⟨fun a3=>fun a4=>⟨fun a5=>fun a6=>⟨fun a7=>?_,fun a7=>⟨(),⟨?_,⟨⟨rfl,⟨rfl,trivial⟩⟩,trivial⟩⟩⟩⟩,fun a5=>⟨fun a6=>?_,fun a6=>⟨(),⟨?_,⟨⟨rfl,⟨rfl,trivial⟩⟩,trivial⟩⟩⟩⟩⟩,fun a3=>⟨fun a4=>?_,fun a4=>⟨(),⟨?_,⟨⟨rfl,⟨rfl,trivial⟩⟩,trivial⟩⟩⟩⟩⟩⟩,fun u2=>fun a1=>⟨⟨fun a2=>fun a3=>⟨fun a4=>fun a5=>⟨fun a6=>⟨fun a7=>?_,fun a7=>⟨(),⟨?_,⟨⟨rfl,⟨rfl,trivial⟩⟩,trivial⟩⟩⟩⟩,fun a6=>⟨fun a7=>?_,fun a7=>⟨(),⟨?_,⟨⟨rfl,⟨rfl,trivial⟩⟩,trivial⟩⟩⟩⟩⟩,fun a4=>⟨fun a5=>?_,fun a5=>⟨(),⟨?_,⟨⟨rfl,⟨rfl,trivial⟩⟩,trivial⟩⟩⟩⟩⟩,fun a2=>fun a3=>⟨fun a4=>fun a5=>⟨fun a6=>⟨fun a7=>?_,fun a7=>⟨(),⟨?_,⟨⟨rfl,⟨rfl,trivial⟩⟩,trivial⟩⟩⟩⟩,fun a6=>⟨fun a7=>?_,fun a7=>⟨(),⟨?_,⟨⟨rfl,⟨rfl,trivial⟩⟩,trivial⟩⟩⟩⟩⟩,fun a4=>⟨fun a5=>?_,fun a5=>⟨(),⟨?_,⟨⟨rfl,⟨rfl,trivial⟩⟩,trivial⟩⟩⟩⟩⟩⟩,fun u3=>fun a2=>⟨⟨0,⟨?_,⟨⟨rfl,⟨rfl,⟨?_,trivial⟩⟩⟩,trivial⟩⟩⟩,fun k4 a3=>have b3x0:=a4t (a1d gg) zP x.kids k4;have b3x1:=a5i (a1d gg) zP x.kids k4;have b3x2:=a4s (a1d gg) x.kids k4;have b3x3:=a1w zP x.kids k4;fun a4=>fun a5=>⟨fun a6=>⟨?_,fun a7=>⟨?_,⟨fun a8=>?_,fun a8=>⟨?_,⟨k4+1,⟨?_,⟨?_,⟨⟨rfl,⟨rfl,⟨?_,trivial⟩⟩⟩,trivial⟩⟩⟩⟩⟩⟩⟩⟩,fun a6=>?_⟩⟩⟩⟩⟩
 all_goals try and_intros
 all_goals try rw[b8s gg x]
 all_goals first|rfl|trivial|(simp only[decide_eq_true_eq,decide_eq_false_iff_not,a0h,a0d] at *;omega)|((try simp only[c0w,a8u,a8t,g8i] at *);first|rfl|omega|grind [a0h,a0d]|grind [a1r,a0h,a0d])
theorem f0o :∀ n,a0p [b3c n]
 | 0=>⟨⟨a0j b7g rfl (by decide),fun _ _ h=>absurd h.1 (Nat.not_lt_zero _)⟩,trivial⟩
 | n+1=>by
  have ih:=f0o  n
  exact⟨f2t n ⟨ih.1,e5p,b7i,e5m,e5n,e5r,trivial⟩,trivial⟩
theorem e5t :Ctr.Good b9d :=
 ⟨a0j b7g rfl (by decide),fun gg x hp=>(f0o  (msz x+1)).1.2 gg x (⟨Nat.lt_succ_self _,hp⟩)⟩
def a6w:Ctr:=⟨c6s,[.v (.st .sig), .v (.st .prog)],fun (gg:a0l) (x:a0a)=>⟨(some (a1y gg=true),[⟨.bool,isP gg x⟩])⟩⟩
def d9e(gg:a0l)(x:a0a):Nat→a0t:=fun _ => .none
theorem f5x(gg:a0l)(x:a0a):awp (a0x [b7l] [] [] [2,3]) (a0i b1n) (d9e gg x) 0 (a1h (a0x [b7l] [] [] [2,3]) b1n fun r=>a1e r [⟨.bool,isP gg x⟩]) (a0r b1n [.val ⟨(.st .sig),gg⟩, .val ⟨(.st .prog),x⟩]) =
 (((a1y gg=true∧0≤(60:Int)∧(60:Int)≤1048576∧0≤(20:Int)∧(20:Int)≤1048576)∧(a0d (b5i gg x (60:Int) (20:Int)) →
 (a9m gg x (60:Int) (20:Int))=(isP gg x)))):=by kernel_rfl
theorem f5c(hE:a0p [b7l]):Ctr.Good a6w:=by
 refine⟨a0j d4f rfl (by decide),?_⟩
 show ∀ (gg:a0l) (x:a0a),(a1y gg=true)→a1f prog c6s [.val ⟨(.st .sig),gg⟩, .val ⟨(.st .prog),x⟩] (·=[⟨.bool,isP gg x⟩])
 intro gg x hp
 refine a0z (wr:=[]) (cl:=[]) (ro:=[2,3]) hE d4f e7m (d9e gg x) ?_
 rewrite [f5x gg x]
 refine⟨?_,fun a0=>?_⟩
 all_goals try and_intros
 all_goals first|rfl|trivial|omega|(simp only[decide_eq_true_eq,decide_eq_false_iff_not,a0h,a0d,a2j,a4q,a4a,a2p] at *;omega)|(simp[a0h,a0d] at *;omega)|grind
theorem c9y:Ctr.Good a6w:=f5c ⟨e2f,trivial⟩
def b0o:Ctr:=⟨c1d,[.v (.st .sig), .v (.st .prog)],fun (gg:a0l) (x:a0a)=>⟨(none,[⟨.bool,okP gg x⟩])⟩⟩
def d0p(gg:a0l)(x:a0a):Nat→a0t:=fun _ => .none
theorem e6c(gg:a0l)(x:a0a):awp (a0x [b2r,a6w] [] [] [2,3]) (a0i a7l) (d0p gg x) 0 (a1h (a0x [b2r,a6w] [] [] [2,3]) a7l fun r=>a1e r [⟨.bool,okP gg x⟩]) (a0r a7l [.val ⟨(.st .sig),gg⟩, .val ⟨(.st .prog),x⟩]) =
 ((((a1y gg)=true →
 (a1y gg=true∧(isP gg x)=(okP gg x)))∧((a1y gg)=(!true) →
 false=(okP gg x)))):=by kernel_rfl
theorem e5v(hE:a0p [b2r,a6w]):Ctr.Good b0o:=by
 refine⟨a0j c7i rfl (by decide),?_⟩
 show ∀ (gg:a0l) (x:a0a),True→a1f prog c1d [.val ⟨(.st .sig),gg⟩, .val ⟨(.st .prog),x⟩] (·=[⟨.bool,okP gg x⟩])
 intro gg x _
 refine a0z (wr:=[]) (cl:=[]) (ro:=[2,3]) hE c7i d9x (d0p gg x) ?_
 rewrite [e6c gg x]
 refine⟨fun a0=>⟨?_,?_⟩,fun a0=>?_⟩
 all_goals try and_intros
 all_goals first|rfl|trivial|grind [okP]
theorem e0b:Ctr.Good b0o:=e5v ⟨e2d,c9y,trivial⟩
def b8e:Ctr:=⟨c3e,[.v (.st .sig), .r (.st .prog)],fun (gg:a0l) (x:a0a)=>⟨(none,[⟨.bool,okP gg x⟩])⟩⟩
def e2v(gg:a0l)(x:a0a):Nat→a0t:=fun _ => .none
abbrev d5i(gg:a0l)(x:a0a):Prop:=(a2e x≤1048576∧(a0d ((a2e x:Int)) →
 (((decide (((a2e x:Int))≤(20:Int)))=true →
 (a1y gg=true∧(a1d gg x)=(okP gg x)))∧((decide (((a2e x:Int))≤(20:Int)))=(!true) →
 false=(okP gg x)))))
theorem f8o(gg:a0l)(x:a0a):awp (a0x [a6y,b9c,b7o,b9d] [] [] [2]) (a0i b4p) (e2v gg x) 0 (a1h (a0x [a6y,b9c,b7o,b9d] [] [] [2]) b4p fun r=>a1e r [⟨.bool,okP gg x⟩]) (a0r b4p [.val ⟨(.st .sig),gg⟩, .ref ⟨(.st .prog),x⟩]) =
 ((((a1y gg)=true →
 ((0≤(60:Int)∧(60:Int)≤1048576)∧(a0d (szR (a1g x) (60:Int)) →
 (((decide ((0:Int)≤(szR (a1g x) (60:Int))))=true →
 (d5i gg x))∧((decide ((0:Int)≤(szR (a1g x) (60:Int))))=(!true) →
 ((false=true →
 (a1y gg=true∧(a1d gg x)=(okP gg x)))∧(false=(!true) →
 false=(okP gg x))))))))∧((a1y gg)=(!true) →
 ((false=true →
 (d5i gg x))∧(false=(!true) →
 ((false=true →
 (a1y gg=true∧(a1d gg x)=(okP gg x)))∧(false=(!true) →
 false=(okP gg x)))))))):=by kernel_rfl
theorem f8h(hE:a0p [a6y,b9c,b7o,b9d]):Ctr.Good b8e:=by
 refine⟨a0j d8v rfl (by decide),?_⟩
 show ∀ (gg:a0l) (x:a0a),True→a1f prog c3e [.val ⟨(.st .sig),gg⟩, .ref ⟨(.st .prog),x⟩] (·=[⟨.bool,okP gg x⟩])
 intro gg x _
 refine a0z (wr:=[]) (cl:=[]) (ro:=[2]) hE d8v f1g (e2v gg x) ?_
 rewrite [f8o gg x]
 have f1:=b6s (a1g x) 60
 have f2:=e1u x
 have f3:okP gg x=(a1y gg&&(a1d gg x&&decide ((a1g x:Int)≤60)&&decide ((a2e x:Int)≤20))):=rfl
 refine⟨fun a0=>⟨?_,fun a1=>⟨fun a2=>⟨?_,fun a3=>⟨fun a4=>⟨?_,?_⟩,fun a4=>?_⟩⟩,fun a2=>⟨fun a3=>⟨?_,?_⟩,fun a3=>?_⟩⟩⟩,fun a0=>⟨fun a1=>⟨?_,fun a2=>⟨fun a3=>⟨?_,?_⟩,fun a3=>?_⟩⟩,fun a1=>⟨fun a2=>⟨?_,?_⟩,fun a2=>?_⟩⟩⟩
 all_goals try and_intros
 all_goals try rw[f3]
 all_goals first|rfl|trivial|omega|(simp only[decide_eq_true_eq,decide_eq_false_iff_not,Bool.not_eq_true',Bool.not_eq_false'] at *;omega)|grind
theorem d1x:Ctr.Good b8e:=f8h ⟨d0a,e5q,e2l,e5t,trivial⟩
end
end Go.Proofs.Ytlaoejdeanljgaa

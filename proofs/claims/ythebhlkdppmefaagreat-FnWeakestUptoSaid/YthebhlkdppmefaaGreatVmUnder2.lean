/- Under, Under2. -/
import Derived.Test.YthebhlkdppmefaaGreatVmUse
import Derived.Test.YthebhlkdppmefaaGreatVmLib
import Derived.Test.YthebhlkdppmefaaGreatVmAllows
import Derived.Test.YthebhlkdppmefaaGreatVmProg
import Derived.Test.YthebhlkdppmefaaGreatVmLeads2
import Derived.Test.YthebhlkdppmefaaGreatVmLeads3
import Derived.Test.YthebhlkdppmefaaGreatVmFrom2
import Derived.Test.YthebhlkdppmefaaGreatVmFrom3
import Derived.Test.YthebhlkdppmefaaGreatVmFrom4
import Derived.Test.YthebhlkdppmefaaGreatVmFrom5
set_option linter.unusedVariables false
set_option linter.unusedSimpArgs false
set_option linter.unusedSectionVars false
set_option maxRecDepth 4000
set_option maxHeartbeats 4000000
namespace Go.Proofs.YthebhlkdppmefaaGreat
noncomputable section
def okT(gg:a0h)(t:a1g):Bool:=okP gg t.prog&&isC gg t.pre&&isC gg t.post
theorem i5w(gg:a0h)(t:a1g):okT gg t=(okC gg t.pre&&okC gg t.post&&okP gg t.prog):=by
 simp only[okT,e5y,okP]
 cases a1i gg<;>cases isP gg t.prog<;>cases isC gg t.pre<;>cases isC gg t.post<;>rfl
theorem h9z(gg:a0h)(xs:List a0e)(t:a1g)(h1:a1t gg xs=true)(h2:okT gg t=true):okL gg xs t.prog∧a1k t.pre=true∧a1k t.post=true:=by
 simp only[okT,Bool.and_eq_true] at h2
 have hs:=c0k gg xs h1
 exact⟨i4o gg xs _ h1 h2.1.1,b9i gg _ hs h2.1.2,b9i gg _ hs h2.2⟩
def tuV(gg:a0h)(xs:List a0e)(t:a1g):Bool:=bif a1t gg xs&&okT gg t then hoB gg xs t else false
def tuC(gg:a0h)(xs:List a0e)(t:a1g):Int:=bif a1t gg xs&&okT gg t then 0 else 1
theorem i6h(gg:a0h)(xs:List a0e)(t:a1g)(h:a1t gg xs=true)(h2:okT gg t=true):tuV gg xs t=hoB gg xs t∧tuC gg xs t=0:=by simp[tuV,tuC,h,h2]
theorem i7y(gg:a0h)(xs:List a0e)(t:a1g)(h:a1t gg xs=false∨okT gg t=false):tuV gg xs t=false∧tuC gg xs t=1:=by
 rcases h with h|h<;>simp[tuV,tuC,h]
def b0m:Ctr:=⟨c2h,[.v (.st .sig), .v (.st .triple)],fun (gg:a0h) (x:a1g)=>⟨(none,[⟨.bool,okT gg x⟩])⟩⟩
def d2x(gg:a0h)(x:a1g):Nat→a0p:=fun _ => .none
theorem f1n(gg:a0h)(x:a1g):awp (a0r [b3n,a2b] [] [] [2,3]) (a0j a7n) (d2x gg x) 0 (a1c (a0r [b3n,a2b] [] [] [2,3]) a7n fun r=>a1f r [⟨.bool,okT gg x⟩]) (a0m a7n [.val ⟨(.st .sig),gg⟩, .val ⟨(.st .triple),x⟩]) =
 ((((okP gg x.prog)=true →
 (((isC gg x.pre)=true →
 (isC gg x.post)=(okT gg x))∧((isC gg x.pre)=(!true) →
 false=(okT gg x))))∧((okP gg x.prog)=(!true) →
 ((false=true →
 (isC gg x.post)=(okT gg x))∧(false=(!true) →
 false=(okT gg x)))))):=by kernel_rfl
theorem f1f(hE:a0o [b3n,a2b]):Ctr.Good b0m:=by
 refine⟨a0l c9i rfl (by decide),?_⟩
 show ∀ (gg:a0h) (x:a1g),True→a1e prog c2h [.val ⟨(.st .sig),gg⟩, .val ⟨(.st .triple),x⟩] (·=[⟨.bool,okT gg x⟩])
 intro gg x _
 refine a0w (wr:=[]) (cl:=[]) (ro:=[2,3]) hE c9i e3t (d2x gg x) ?_
 rewrite [f1n gg x]
 refine⟨fun a0=>⟨fun a1=>?_,fun a1=>?_⟩,fun a0=>⟨fun a1=>?_,fun a1=>?_⟩⟩
 all_goals try and_intros
 all_goals first|rfl|trivial|grind [okT]
theorem e4j:Ctr.Good b0m:=f1f ⟨f0v,a7x,trivial⟩
def b3s:Ctr:=⟨c6h,[.v (.st .sig), .r (.st .triple)],fun (gg:a0h) (x:a1g)=>⟨(none,[⟨.bool,okT gg x⟩])⟩⟩
def d8o(gg:a0h)(x:a1g):Nat→a0p:=fun _ => .none
theorem f8r(gg:a0h)(x:a1g):awp (a0r [a7z,b0p] [] [] [2]) (a0j a9z) (d8o gg x) 0 (a1c (a0r [a7z,b0p] [] [] [2]) a9z fun r=>a1f r [⟨.bool,okT gg x⟩]) (a0m a9z [.val ⟨(.st .sig),gg⟩, .ref ⟨(.st .triple),x⟩]) =
 ((((okC gg x.pre)=true →
 (((okC gg x.post)=true →
 (okP gg x.prog)=(okT gg x))∧((okC gg x.post)=(!true) →
 false=(okT gg x))))∧((okC gg x.pre)=(!true) →
 ((false=true →
 (okP gg x.prog)=(okT gg x))∧(false=(!true) →
 false=(okT gg x)))))):=by kernel_rfl
theorem f8g(hE:a0o [a7z,b0p]):Ctr.Good b3s:=by
 refine⟨a0l d4q rfl (by decide),?_⟩
 show ∀ (gg:a0h) (x:a1g),True→a1e prog c6h [.val ⟨(.st .sig),gg⟩, .ref ⟨(.st .triple),x⟩] (·=[⟨.bool,okT gg x⟩])
 intro gg x _
 refine a0w (wr:=[]) (cl:=[]) (ro:=[2]) hE d4q f0t (d8o gg x) ?_
 rewrite [f8r gg x]
 refine⟨fun a0=>⟨fun a1=>?_,fun a1=>?_⟩,fun a0=>⟨fun a1=>?_,fun a1=>?_⟩⟩
 all_goals try and_intros
 all_goals try rw[i5w]
 all_goals first|rfl|trivial|grind
theorem f1b:Ctr.Good b3s:=f8g ⟨d4u,e0o,trivial⟩
def b0l:Ctr:=⟨c2g,[.v (.st .sig), .v (.slice (.st .premise)), .v (.st .triple)],fun (gg:a0h) (xs:List a0e) (t:a1g)=>⟨(none,[⟨.bool,tuV gg xs t⟩,⟨(.int .i64),tuC gg xs t⟩])⟩⟩
def d2w(gg:a0h)(xs:List a0e)(t:a1g):Nat→a0p:=fun _ => .none
theorem f1m(gg:a0h)(xs:List a0e)(t:a1g):awp (a0r [a3a,b0m,b1q] [] [] [3,5]) (a0j a7m) (d2w gg xs t) 0 (a1c (a0r [a3a,b0m,b1q] [] [] [3,5]) a7m fun r=>a1f r [⟨.bool,tuV gg xs t⟩,⟨(.int .i64),tuC gg xs t⟩]) (a0m a7m [.val ⟨(.st .sig),gg⟩, .val ⟨(.slice (.st .premise)),xs⟩, .val ⟨(.st .triple),t⟩]) =
 ((((!(a1t gg xs))=false →
 (((!(okT gg t))=true →
 (false=(tuV gg xs t)∧(1:Int)=(tuC gg xs t)))∧((!(okT gg t))=false →
 ((okL gg xs t.prog∧a1k t.pre=true∧a1k t.post=true)∧((hoB gg xs t)=(tuV gg xs t)∧(0:Int)=(tuC gg xs t))))))∧((!(a1t gg xs))=(!false) →
 ((true=true →
 (false=(tuV gg xs t)∧(1:Int)=(tuC gg xs t)))∧(true=false →
 ((okL gg xs t.prog∧a1k t.pre=true∧a1k t.post=true)∧((hoB gg xs t)=(tuV gg xs t)∧(0:Int)=(tuC gg xs t)))))))):=by kernel_rfl
theorem f1e(hE:a0o [a3a,b0m,b1q]):Ctr.Good b0l:=by
 refine⟨a0l c9h rfl (by decide),?_⟩
 show ∀ (gg:a0h) (xs:List a0e) (t:a1g),True→a1e prog c2g [.val ⟨(.st .sig),gg⟩, .val ⟨(.slice (.st .premise)),xs⟩, .val ⟨(.st .triple),t⟩] (·=[⟨.bool,tuV gg xs t⟩,⟨(.int .i64),tuC gg xs t⟩])
 intro gg xs t _
 refine a0w (wr:=[]) (cl:=[]) (ro:=[3,5]) hE c9h e3s (d2w gg xs t) ?_
 rewrite [f1m gg xs t]
 have f1:=h9z gg xs t
 have f2:=i6h gg xs t
 have f3:=i7y gg xs t
 refine⟨fun a0=>⟨fun a1=>⟨?_,?_⟩,fun a1=>⟨?_,⟨?_,?_⟩⟩⟩,fun a0=>⟨fun a1=>⟨?_,?_⟩,fun a1=>⟨?_,⟨?_,?_⟩⟩⟩⟩
 all_goals try and_intros
 all_goals first|with_reducible rfl|omega|grind
theorem e4i:Ctr.Good b0l:=f1e ⟨b4j,e4j,e7l,trivial⟩
end
end Go.Proofs.YthebhlkdppmefaaGreat

set_option linter.unusedVariables false
set_option linter.unusedSimpArgs false
set_option linter.unusedSectionVars false
set_option maxRecDepth 4000
set_option maxHeartbeats 4000000
namespace Go.Proofs.YthebhlkdppmefaaGreat
noncomputable section
def b6f:Ctr:=⟨b8n,[.v (.st .sig), .v (.slice (.st .premise)), .v (.st .prog), .v (.st .expr)],fun (gg:a0h) (xs:List a0e) (p:a0d) (c:a0b)=>⟨(some (okL gg xs p∧a1k c=true),[⟨(.slice (.int .i64)),wkL (a0g (a0a gg) xs p) c⟩])⟩⟩
def e1l(gg:a0h)(xs:List a0e)(p:a0d)(c:a0b):Nat→a0p:=(fun zb=>if Nat.beq zb 0 then .mk (Nat) (fun k=>k≤(a0g (a0a gg) xs p).length) (fun k=>(a0g (a0a gg) xs p).length - k) [] [0,1,2,3,4,5,6,15,16,17,18] (fun k=>[(21, .imm ⟨(.int .i64),((k:Int):Int)⟩),(9, .row 15)]) [7,8,9,10,11,12,13,14,19,20,21,22,23,24,25,26,27,28,29,30,31,32,33,34,35,36,37,38,39,40,41,42,43,44,45,46,47,48,49,50] (fun k=>[(15, .row c0f (.int .i64) (a0y (a3i (a0g (a0a gg) xs p) c) k:List Int))]) [] [] (fun k=>(fun zb=>if Nat.beq zb 2 then .mk (Nat) (fun j=>j≤((a0g (a0a gg) xs p).getD k []).length) (fun j=>((a0g (a0a gg) xs p).getD k []).length - j) [] [0,1,2,3,4,5,6,15,16,17,18] (fun j=>[(28, .imm ⟨(.int .i64),((j:Int):Int)⟩),(12, .imm ⟨.bool,(a4n (a9h (a0g (a0a gg) xs p) c k) j:Bool)⟩)]) [7,8,9,10,11,12,13,14,15,19,20,21,22,23,24,25,26,27,28,29,30,31,32,33,34,35,36,37,38,39,40,41,42,43,44,45,46,47,48,49,50] (fun j=>[]) [] [] (fun j=>fun _ => .none) else .none)) else .none)
abbrev c4o(gg:a0h)(xs:List a0e)(p:a0d)(k1:Nat)(j2:Nat)(j3:Nat):Prop:=((a0g (a0a gg) xs p)=(a0g (a0a gg) xs p)∧((((a0g (a0a gg) xs p).length:Int))=(((a0g (a0a gg) xs p).length:Int))∧((k1:Int)=(k1:Int)∧((decide ((k1:Int)<(((a0g (a0a gg) xs p).length:Int))))=(decide ((k1:Int)<(((a0g (a0a gg) xs p).length:Int))))∧((k1:Int)=(k1:Int)∧(((a0g (a0a gg) xs p).getD k1 [])=((a0g (a0a gg) xs p).getD k1 [])∧(((a0g (a0a gg) xs p).getD k1 [])=((a0g (a0a gg) xs p).getD k1 [])∧(((a0g (a0a gg) xs p).getD k1 [])=((a0g (a0a gg) xs p).getD k1 [])∧(((((a0g (a0a gg) xs p).getD k1 []).length:Int))=((((a0g (a0a gg) xs p).getD k1 []).length:Int))∧(((j2:Int)+(1:Int))=(j3:Int)∧True))))))))))
abbrev d5j(gg:a0h)(xs:List a0e)(p:a0d)(c:a0b)(k1:Nat)(k3:Nat):Prop:=(c=c∧(True∧(True∧((a0g (a0a gg) xs p)=(a0g (a0a gg) xs p)∧((((a0g (a0a gg) xs p).length:Int))=(((a0g (a0a gg) xs p).length:Int))∧(((k1:Int)+(1:Int))=(k3:Int)∧True))))))
theorem g2v(gg:a0h)(xs:List a0e)(p:a0d)(c:a0b):awp (a2s [a6y,a2r] [] [] [] [] [] [4,6,7]) (a0j a6d) (e1l gg xs p c) 0 (a5k (a2s [a6y,a2r] [] [] [] [] [] [4,6,7]) a6d fun r=>a1f r [⟨(.slice (.int .i64)),wkL (a0g (a0a gg) xs p) c⟩]) (a8e a6d [.val ⟨(.st .sig),gg⟩, .val ⟨(.slice (.st .premise)),xs⟩, .val ⟨(.st .prog),p⟩, .val ⟨(.st .expr),c⟩]) =
 ((okL gg xs p∧((a0g (a0a gg) xs p).length≤140737488355328 →
 (a0c (((a0g (a0a gg) xs p).length:Int)) →
 ((∃ k1:Nat,(k1≤(a0g (a0a gg) xs p).length∧((c=c∧(True∧(True∧((a0g (a0a gg) xs p)=(a0g (a0a gg) xs p)∧((((a0g (a0a gg) xs p).length:Int))=(((a0g (a0a gg) xs p).length:Int))∧((0:Int)=(k1:Int)∧True))))))∧([]=(a0y (a3i (a0g (a0a gg) xs p) c) k1)∧True))))∧(∀ k1:Nat,(k1≤(a0g (a0a gg) xs p).length →
 (((decide ((k1:Int)<(((a0g (a0a gg) xs p).length:Int))))=true →
 (a0k (k1:Int) (a0g (a0a gg) xs p).length∧(((a0g (a0a gg) xs p).getD k1 []).length≤140737488355328 →
 (a0c ((((a0g (a0a gg) xs p).getD k1 []).length:Int)) →
 ((∃ j2:Nat,(j2≤((a0g (a0a gg) xs p).getD k1 []).length∧((c=c∧(True∧(True∧((k1:Int)=(k1:Int)∧(((a0g (a0a gg) xs p).getD k1 [])=((a0g (a0a gg) xs p).getD k1 [])∧(true=(a4n (a9h (a0g (a0a gg) xs p) c k1) j2)∧((a0g (a0a gg) xs p)=(a0g (a0a gg) xs p)∧((((a0g (a0a gg) xs p).length:Int))=(((a0g (a0a gg) xs p).length:Int))∧((k1:Int)=(k1:Int)∧((decide ((k1:Int)<(((a0g (a0a gg) xs p).length:Int))))=(decide ((k1:Int)<(((a0g (a0a gg) xs p).length:Int))))∧((k1:Int)=(k1:Int)∧(((a0g (a0a gg) xs p).getD k1 [])=((a0g (a0a gg) xs p).getD k1 [])∧(((a0g (a0a gg) xs p).getD k1 [])=((a0g (a0a gg) xs p).getD k1 [])∧(((a0g (a0a gg) xs p).getD k1 [])=((a0g (a0a gg) xs p).getD k1 [])∧(((((a0g (a0a gg) xs p).getD k1 []).length:Int))=((((a0g (a0a gg) xs p).getD k1 []).length:Int))∧((0:Int)=(j2:Int)∧True))))))))))))))))∧((a0y (a3i (a0g (a0a gg) xs p) c) k1)=(a0y (a3i (a0g (a0a gg) xs p) c) k1)∧True))))∧(∀ j2:Nat,(j2≤((a0g (a0a gg) xs p).getD k1 []).length →
 (((decide ((j2:Int)<((((a0g (a0a gg) xs p).getD k1 []).length:Int))))=true →
 (a0k (j2:Int) ((a0g (a0a gg) xs p).getD k1 []).length∧(((a4n (a9h (a0g (a0a gg) xs p) c k1) j2)=true →
 (((!(((a0g (a0a gg) xs p).getD k1 []).getD j2 false))=false →
 ((a1k c=true∧0≤(j2:Int)∧(j2:Int)≤4096)∧(a0c ((j2:Int)+(1:Int))∧(∃ j3:Nat,(j3≤((a0g (a0a gg) xs p).getD k1 []).length∧(((a0g (a0a gg) xs p).getD k1 []).length - j3<((a0g (a0a gg) xs p).getD k1 []).length - j2∧((c=c∧(True∧(True∧((k1:Int)=(k1:Int)∧(((a0g (a0a gg) xs p).getD k1 [])=((a0g (a0a gg) xs p).getD k1 [])∧((a1b (j2:Int) c)=(a4n (a9h (a0g (a0a gg) xs p) c k1) j3)∧(c4o gg xs p k1 j2 j3)))))))∧((a0y (a3i (a0g (a0a gg) xs p) c) k1)=(a0y (a3i (a0g (a0a gg) xs p) c) k1)∧True))))))))∧((!(((a0g (a0a gg) xs p).getD k1 []).getD j2 false))=(!false) →
 (a0c ((j2:Int)+(1:Int))∧(∃ j3:Nat,(j3≤((a0g (a0a gg) xs p).getD k1 []).length∧(((a0g (a0a gg) xs p).getD k1 []).length - j3<((a0g (a0a gg) xs p).getD k1 []).length - j2∧((c=c∧(True∧(True∧((k1:Int)=(k1:Int)∧(((a0g (a0a gg) xs p).getD k1 [])=((a0g (a0a gg) xs p).getD k1 [])∧(true=(a4n (a9h (a0g (a0a gg) xs p) c k1) j3)∧(c4o gg xs p k1 j2 j3)))))))∧((a0y (a3i (a0g (a0a gg) xs p) c) k1)=(a0y (a3i (a0g (a0a gg) xs p) c) k1)∧True)))))))))∧((a4n (a9h (a0g (a0a gg) xs p) c k1) j2)=(!true) →
 (a0c ((j2:Int)+(1:Int))∧(∃ j3:Nat,(j3≤((a0g (a0a gg) xs p).getD k1 []).length∧(((a0g (a0a gg) xs p).getD k1 []).length - j3<((a0g (a0a gg) xs p).getD k1 []).length - j2∧((c=c∧(True∧(True∧((k1:Int)=(k1:Int)∧(((a0g (a0a gg) xs p).getD k1 [])=((a0g (a0a gg) xs p).getD k1 [])∧(false=(a4n (a9h (a0g (a0a gg) xs p) c k1) j3)∧(c4o gg xs p k1 j2 j3)))))))∧((a0y (a3i (a0g (a0a gg) xs p) c) k1)=(a0y (a3i (a0g (a0a gg) xs p) c) k1)∧True))))))))))∧((decide ((j2:Int)<((((a0g (a0a gg) xs p).getD k1 []).length:Int))))=false →
 (((a4n (a9h (a0g (a0a gg) xs p) c k1) j2)=true →
 (a1p ((a0y (a3i (a0g (a0a gg) xs p) c) k1).length+([(k1:Int)]).length) 8∧(a0c ((k1:Int)+(1:Int))∧(∃ k3:Nat,(k3≤(a0g (a0a gg) xs p).length∧((a0g (a0a gg) xs p).length - k3<(a0g (a0a gg) xs p).length - k1∧((d5j gg xs p c k1 k3)∧(((a0y (a3i (a0g (a0a gg) xs p) c) k1)++([(k1:Int)]))=(a0y (a3i (a0g (a0a gg) xs p) c) k3)∧True))))))))∧((a4n (a9h (a0g (a0a gg) xs p) c k1) j2)=false →
 (a0c ((k1:Int)+(1:Int))∧(∃ k3:Nat,(k3≤(a0g (a0a gg) xs p).length∧((a0g (a0a gg) xs p).length - k3<(a0g (a0a gg) xs p).length - k1∧((d5j gg xs p c k1 k3)∧((a0y (a3i (a0g (a0a gg) xs p) c) k1)=(a0y (a3i (a0g (a0a gg) xs p) c) k3)∧True)))))))))))))))))∧((decide ((k1:Int)<(((a0g (a0a gg) xs p).length:Int))))=false →
 (a0y (a3i (a0g (a0a gg) xs p) c) k1)=(wkL (a0g (a0a gg) xs p) c)))))))))):=by kernel_rfl
theorem g1z(hE:a0o [a6y,a2r])(hO:a5c [])(hM:a5s [])(hS:a5d []):Ctr.OGood b6f:=by
 refine⟨a0l c0r rfl (by decide),?_⟩
 show ∀ (gg:a0h) (xs:List a0e) (p:a0d) (c:a0b),(okL gg xs p∧a1k c=true)→a6q prog b8n [.val ⟨(.st .sig),gg⟩, .val ⟨(.slice (.st .premise)),xs⟩, .val ⟨(.st .prog),p⟩, .val ⟨(.st .expr),c⟩] [⟨(.slice (.int .i64)),wkL (a0g (a0a gg) xs p) c⟩]
 intro gg xs p c hp
 refine a4j (own:=[]) (wr:=[]) (cl:=[]) (ro:=[4,6,7]) hE hO hM hS c0r d4r (e1l gg xs p c) ?_
 rewrite [g2v gg xs p c]
 have f1:=f9e gg xs p hp.1
 refine⟨?_,fun a0=>fun a1=>⟨⟨0,⟨?_,⟨⟨rfl,⟨trivial,⟨trivial,⟨rfl,⟨rfl,⟨?_,trivial⟩⟩⟩⟩⟩⟩,⟨?_,trivial⟩⟩⟩⟩,fun k1 a2=>have b2x0:=c9d (a3i (a0g (a0a gg) xs p) c) k1;have b2x1:=c9c (a3i (a0g (a0a gg) xs p) c) k1;have b2x2:=a6b (a3i (a0g (a0a gg) xs p) c) k1;have b2x3:=h5m (a0g (a0a gg) xs p) c k1;have b2x4:=f1.2.2 k1;⟨fun a3=>⟨?_,fun a4=>fun a5=>⟨⟨0,⟨?_,⟨⟨rfl,⟨trivial,⟨trivial,⟨rfl,⟨rfl,⟨?_,⟨rfl,⟨rfl,⟨rfl,⟨rfl,⟨rfl,⟨rfl,⟨rfl,⟨rfl,⟨rfl,⟨?_,trivial⟩⟩⟩⟩⟩⟩⟩⟩⟩⟩⟩⟩⟩⟩⟩⟩,⟨rfl,trivial⟩⟩⟩⟩,fun j2 a6=>have b6x0:=d2c (a9h (a0g (a0a gg) xs p) c k1) j2;have b6x1:=h6z (a0g (a0a gg) xs p) c k1 j2;have b6x2:=h6s (a0g (a0a gg) xs p) c k1 j2;⟨fun a7=>⟨?_,⟨fun a8=>⟨fun a9=>⟨?_,⟨?_,⟨j2+1,⟨?_,⟨?_,⟨⟨rfl,⟨trivial,⟨trivial,⟨rfl,⟨rfl,⟨?_,⟨rfl,⟨rfl,⟨rfl,⟨rfl,⟨rfl,⟨rfl,⟨rfl,⟨rfl,⟨rfl,⟨?_,trivial⟩⟩⟩⟩⟩⟩⟩⟩⟩⟩⟩⟩⟩⟩⟩⟩,⟨rfl,trivial⟩⟩⟩⟩⟩⟩⟩,fun a9=>⟨?_,⟨j2+1,⟨?_,⟨?_,⟨⟨rfl,⟨trivial,⟨trivial,⟨rfl,⟨rfl,⟨?_,⟨rfl,⟨rfl,⟨rfl,⟨rfl,⟨rfl,⟨rfl,⟨rfl,⟨rfl,⟨rfl,⟨?_,trivial⟩⟩⟩⟩⟩⟩⟩⟩⟩⟩⟩⟩⟩⟩⟩⟩,⟨rfl,trivial⟩⟩⟩⟩⟩⟩⟩,fun a8=>⟨?_,⟨j2+1,⟨?_,⟨?_,⟨⟨rfl,⟨trivial,⟨trivial,⟨rfl,⟨rfl,⟨?_,⟨rfl,⟨rfl,⟨rfl,⟨rfl,⟨rfl,⟨rfl,⟨rfl,⟨rfl,⟨rfl,⟨?_,trivial⟩⟩⟩⟩⟩⟩⟩⟩⟩⟩⟩⟩⟩⟩⟩⟩,⟨rfl,trivial⟩⟩⟩⟩⟩⟩⟩⟩,fun a7=>⟨fun a8=>⟨?_,⟨?_,⟨k1+1,⟨?_,⟨?_,⟨⟨rfl,⟨trivial,⟨trivial,⟨rfl,⟨rfl,⟨?_,trivial⟩⟩⟩⟩⟩⟩,⟨?_,trivial⟩⟩⟩⟩⟩⟩⟩,fun a8=>⟨?_,⟨k1+1,⟨?_,⟨?_,⟨⟨rfl,⟨trivial,⟨trivial,⟨rfl,⟨rfl,⟨?_,trivial⟩⟩⟩⟩⟩⟩,⟨?_,trivial⟩⟩⟩⟩⟩⟩⟩⟩⟩⟩,fun a3=>?_⟩⟩⟩
 all_goals try and_intros
 all_goals first|rfl|trivial|omega|(simp only[decide_eq_true_eq,decide_eq_false_iff_not,a0k,a0c,a1p,List.length_append,List.length_cons,List.length_nil] at *;omega)|grind [a0k,a0c,d2c]
theorem f4k:Ctr.OGood b6f:=g1z ⟨c8a,a8j,trivial⟩ trivial trivial trivial
def wuV(gg:a0h)(xs:List a0e)(p:a0d)(c:a0b):List Int:=bif a1t gg xs&&(isP gg p&&isC gg c) then wkL (a0g (a0a gg) xs p) c else []
def suV(gg:a0h)(xs:List a0e)(c:a0b)(p:a0d):List Int:=bif a1t gg xs&&(isP gg p&&isC gg c) then a0y (a5u gg xs c p) (a0a gg).toNat else []
def wuC(gg:a0h)(xs:List a0e)(p:a0d)(c:a0b):Int:=bif a1t gg xs&&(isP gg p&&isC gg c) then 0 else 1
theorem h0g(gg:a0h)(xs:List a0e)(p:a0d)(c:a0b)(h1:a1t gg xs=true)(h2:isP gg p=true)(h3:isC gg c=true):wuV gg xs p c=wkL (a0g (a0a gg) xs p) c∧suV gg xs c p=a0y (a5u gg xs c p) (a0a gg).toNat∧wuC gg xs p c=0∧okL gg xs p∧a1k c=true∧i3e gg xs c p=a0y (a5u gg xs c p) (a0a gg).toNat:=by
 have hL:=h9y gg xs p h1 h2
 exact⟨by simp[wuV,h1,h2,h3],by simp[suV,h1,h2,h3],by simp[wuC,h1,h2,h3],hL,b9i gg c hL.sig h3,i4v gg xs c p hL⟩
theorem i6i(gg:a0h)(xs:List a0e)(p:a0d)(c:a0b)(h:a1t gg xs=false∨isP gg p=false∨isC gg c=false):wuV gg xs p c=[]∧suV gg xs c p=[]∧wuC gg xs p c=1:=by
 rcases h with h|h|h<;>simp[wuV,suV,wuC,h]
theorem i0z(gg:a0h)(xs:List a0e)(h:a1t gg xs=true):a1i gg=true:=c0k gg xs h
theorem h4v(gg:a0h)(p:a0d):okP gg p=(a1i gg&&isP gg p):=rfl
def a6i:Ctr:=⟨c0p,[.v (.st .sig), .v (.slice (.st .premise)), .v (.st .prog), .v (.st .expr)],fun (gg:a0h) (xs:List a0e) (p:a0d) (c:a0b)=>⟨(none,[⟨(.slice (.int .i64)),wuV gg xs p c⟩,⟨(.int .i64),wuC gg xs p c⟩])⟩⟩
def c8j(gg:a0h)(xs:List a0e)(p:a0d)(c:a0b):Nat→a0p:=fun _ => .none
abbrev c4z(gg:a0h)(xs:List a0e)(p:a0d)(c:a0b):Prop:=(((!(isC gg c))=true →
 ([]=(wuV gg xs p c)∧(1:Int)=(wuC gg xs p c)))∧((!(isC gg c))=false →
 ((okL gg xs p∧a1k c=true)∧((wkL (a0g (a0a gg) xs p) c)=(wuV gg xs p c)∧(0:Int)=(wuC gg xs p c)))))
abbrev c5a(gg:a0h)(xs:List a0e)(p:a0d)(c:a0b):Prop:=((true=true →
 ([]=(wuV gg xs p c)∧(1:Int)=(wuC gg xs p c)))∧(true=false →
 ((okL gg xs p∧a1k c=true)∧((wkL (a0g (a0a gg) xs p) c)=(wuV gg xs p c)∧(0:Int)=(wuC gg xs p c)))))
theorem e6m(gg:a0h)(xs:List a0e)(p:a0d)(c:a0b):awp (a2s [a3a,a5e,a2b] [b6f] [] [30] [] [] [4,6,7]) (a0j a6t) (c8j gg xs p c) 0 (a5k (a2s [a3a,a5e,a2b] [b6f] [] [30] [] [] [4,6,7]) a6t fun r=>a1f r [⟨(.slice (.int .i64)),wuV gg xs p c⟩,⟨(.int .i64),wuC gg xs p c⟩]) (a8e a6t [.val ⟨(.st .sig),gg⟩, .val ⟨(.slice (.st .premise)),xs⟩, .val ⟨(.st .prog),p⟩, .val ⟨(.st .expr),c⟩]) =
 ((((!(a1t gg xs))=false →
 (a1i gg=true∧(((!(isP gg p))=false →
 (c4z gg xs p c))∧((!(isP gg p))=(!false) →
 (c5a gg xs p c)))))∧((!(a1t gg xs))=(!false) →
 ((true=false →
 (c4z gg xs p c))∧(true=(!false) →
 (c5a gg xs p c)))))):=by kernel_rfl
theorem e6b(hE:a0o [a3a,a5e,a2b])(hO:a5c [b6f])(hM:a5s [])(hS:a5d []):Ctr.OGood a6i:=by
 refine⟨a0l c7u rfl (by decide),?_⟩
 show ∀ (gg:a0h) (xs:List a0e) (p:a0d) (c:a0b),True→a6q prog c0p [.val ⟨(.st .sig),gg⟩, .val ⟨(.slice (.st .premise)),xs⟩, .val ⟨(.st .prog),p⟩, .val ⟨(.st .expr),c⟩] [⟨(.slice (.int .i64)),wuV gg xs p c⟩,⟨(.int .i64),wuC gg xs p c⟩]
 intro gg xs p c _
 refine a4j (own:=[30]) (wr:=[]) (cl:=[]) (ro:=[4,6,7]) hE hO hM hS c7u e2d (c8j gg xs p c) ?_
 rewrite [e6m gg xs p c]
 have f1:=h0g gg xs p c
 have f2:=i6i gg xs p c
 have f3:=i0z gg xs
 have f4:=h4v gg p
 have f5:=e5y gg c
 refine⟨fun a0=>⟨?_,⟨fun a1=>⟨fun a2=>⟨?_,?_⟩,fun a2=>⟨?_,⟨?_,?_⟩⟩⟩,fun a1=>⟨fun a2=>⟨?_,?_⟩,fun a2=>⟨?_,⟨?_,?_⟩⟩⟩⟩⟩,fun a0=>⟨fun a1=>⟨fun a2=>⟨?_,?_⟩,fun a2=>⟨?_,⟨?_,?_⟩⟩⟩,fun a1=>⟨fun a2=>⟨?_,?_⟩,fun a2=>⟨?_,⟨?_,?_⟩⟩⟩⟩⟩
 all_goals try and_intros
 all_goals first|with_reducible rfl|omega|grind
theorem d9m:Ctr.OGood a6i:=e6b ⟨b4j,c5v,a7x,trivial⟩ ⟨f4k,trivial⟩ trivial trivial
end
end Go.Proofs.YthebhlkdppmefaaGreat

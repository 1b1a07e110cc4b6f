/- ASig, ASplit. -/
import Derived.Test.YtmdefiphdgcijaaDoorVmUse
import Derived.Test.YtmdefiphdgcijaaDoorVmLib
import Derived.Test.YtmdefiphdgcijaaDoorVmBw
set_option linter.unusedVariables false
set_option linter.unusedSimpArgs false
set_option linter.unusedSectionVars false
set_option maxRecDepth 4000
set_option maxHeartbeats 4000000
namespace Go.Proofs.YtmdefiphdgcijaaDoor
noncomputable section
def a3x(gg:a0t):Bool:=decide (0≤gg.tests∧gg.tests≤3)&&decide (0≤gg.actions∧gg.actions≤4)
theorem d9h(gg:a0t):a3x gg=true↔(0≤gg.tests∧gg.tests≤3)∧(0≤gg.actions∧gg.actions≤4):=by
 simp[a3x]
def a0i(gg:a0t):Int:=1 * 2 ^ gg.tests.toNat
theorem a3u(gg:a0t)(h:0≤gg.tests∧gg.tests≤3):1≤a0i gg∧a0i gg≤8:=by
 have:gg.tests=0∨gg.tests=1∨gg.tests=2∨gg.tests=3:=by omega
 unfold a0i
 rcases this with e|e|e|e<;>rw[e]<;>decide
theorem d5x(n:Int):a3d .u64 n↔0≤n∧n≤18446744073709551615:=Iff.rfl
theorem d5w(n:Int):a3d .i64 n↔a0e n:=Iff.rfl
theorem e3j:IntKind.u64.min=0:=rfl
theorem e3i:IntKind.u64.max=18446744073709551615:=rfl
def a4y:Ctr:=⟨b8a,[.v (.int .i64), .v (.int .i64), .v (.int .i64)],fun (n:Int) (least:Int) (most:Int)=>⟨(none,[⟨.bool,decide (least≤n∧n≤most)⟩])⟩⟩
def c7o(n:Int)(least:Int)(most:Int):Nat→a0w:=fun _ => .none
theorem d8e(n:Int)(least:Int)(most:Int):awp (a1c []) (a0m a7n) (c7o n least most) 0 (a1m (a1c []) a7n fun r=>a2e r [⟨.bool,decide (least≤n∧n≤most)⟩]) (a0q a7n [.val ⟨(.int .i64),n⟩, .val ⟨(.int .i64),least⟩, .val ⟨(.int .i64),most⟩]) =
 ((((decide (least≤n))=true →
 ((decide (n≤most))=(decide (least≤n∧n≤most))))∧((decide (least≤n))=(!true) →
 (false=(decide (least≤n∧n≤most)))))):=by kernel_rfl
theorem d7w(hE:a0z []):Ctr.Good a4y:=by
 refine⟨a1g c3r rfl (by decide),?_⟩
 show ∀ (n:Int) (least:Int) (most:Int),True→a1h a0k b8a [.val ⟨(.int .i64),n⟩, .val ⟨(.int .i64),least⟩, .val ⟨(.int .i64),most⟩] (·=[⟨.bool,decide (least≤n∧n≤most)⟩])
 intro n least most _
 refine a1k (wr:=[]) (cl:=[]) (ro:=[]) hE c3r d3k (c7o n least most) ?_
 rewrite [d8e n least most]
 refine⟨fun a0=>?_,fun a0=>?_⟩
 all_goals try and_intros
 all_goals first|rfl|trivial|(simp_all;done)|(simp_all;omega)
theorem c0i:Ctr.Good a4y:=d7w trivial
def a5u:Ctr:=⟨c0w,[.v (.int .i64), .v (.int .i64), .v (.int .i64)],fun (n:Int) (low:Int) (high:Int)=>⟨(none,[⟨.bool,decide (low≤n∧n≤high)⟩])⟩⟩
def c9u(n:Int)(low:Int)(high:Int):Nat→a0w:=fun _ => .none
theorem e0d(n:Int)(low:Int)(high:Int):awp (a1c []) (a0m a8z) (c9u n low high) 0 (a1m (a1c []) a8z fun r=>a2e r [⟨.bool,decide (low≤n∧n≤high)⟩]) (a0q a8z [.val ⟨(.int .i64),n⟩, .val ⟨(.int .i64),low⟩, .val ⟨(.int .i64),high⟩]) =
 ((((decide (low≤n))=true →
 ((decide (n≤high))=(decide (low≤n∧n≤high))))∧((decide (low≤n))=(!true) →
 (false=(decide (low≤n∧n≤high)))))):=by kernel_rfl
theorem d9x(hE:a0z []):Ctr.Good a5u:=by
 refine⟨a1g c7i rfl (by decide),?_⟩
 show ∀ (n:Int) (low:Int) (high:Int),True→a1h a0k c0w [.val ⟨(.int .i64),n⟩, .val ⟨(.int .i64),low⟩, .val ⟨(.int .i64),high⟩] (·=[⟨.bool,decide (low≤n∧n≤high)⟩])
 intro n low high _
 refine a1k (wr:=[]) (cl:=[]) (ro:=[]) hE c7i d5e (c9u n low high) ?_
 rewrite [e0d n low high]
 refine⟨fun a0=>?_,fun a0=>?_⟩
 all_goals try and_intros
 all_goals first|rfl|trivial|(simp_all;done)|(simp_all;omega)
theorem c1u:Ctr.Good a5u:=d9x trivial
def a7y:Ctr:=⟨b5c,[.v (.st .sig)],fun (gg:a0t)=>⟨(none,[⟨.bool,a3x gg⟩])⟩⟩
def c1y(gg:a0t):Nat→a0w:=fun _ => .none
theorem d4k(gg:a0t):awp (a1c [a4y] [] [] [1]) (a0m a6a) (c1y gg) 0 (a1m (a1c [a4y] [] [] [1]) a6a fun r=>a2e r [⟨.bool,a3x gg⟩]) (a0q a6a [.val ⟨(.st .sig),gg⟩]) =
 ((a0e gg.tests →
 ((((decide ((0:Int)≤gg.tests∧gg.tests≤(3:Int)))=true) →
 (a0e gg.actions →
 ((decide ((0:Int)≤gg.actions∧gg.actions≤(4:Int)))=(a3x gg))))∧(((decide ((0:Int)≤gg.tests∧gg.tests≤(3:Int)))=(!true)) →
 false=(a3x gg))))):=by kernel_rfl
theorem d4d(hE:a0z [a4y]):Ctr.Good a7y:=by
 refine⟨a1g b9s rfl (by decide),?_⟩
 show ∀ (gg:a0t),True→a1h a0k b5c [.val ⟨(.st .sig),gg⟩] (·=[⟨.bool,a3x gg⟩])
 intro gg _
 refine a1k (wr:=[]) (cl:=[]) (ro:=[1]) hE b9s c8o (c1y gg) ?_
 rewrite [d4k gg]
 refine fun a0=>⟨fun a1=>fun a2=>?_,fun a1=>?_⟩
 all_goals try and_intros
 all_goals first|rfl|trivial|(simp_all [a3x];done)|(simp_all [a3x];omega)
theorem c9j:Ctr.Good a7y:=d4d ⟨c0i,trivial⟩
def b0e:Ctr:=⟨b8b,[.v (.st .sig)],fun (gg:a0t)=>⟨(none,[⟨.bool,a3x gg⟩])⟩⟩
def c7p(gg:a0t):Nat→a0w:=fun _ => .none
theorem d8f(gg:a0t):awp (a1c [a5u] [] [] [1]) (a0m a7o) (c7p gg) 0 (a1m (a1c [a5u] [] [] [1]) a7o fun r=>a2e r [⟨.bool,a3x gg⟩]) (a0q a7o [.val ⟨(.st .sig),gg⟩]) =
 ((a0e gg.tests →
 ((((decide ((0:Int)≤gg.tests∧gg.tests≤(3:Int)))=true) →
 (a0e gg.actions →
 ((decide ((0:Int)≤gg.actions∧gg.actions≤(4:Int)))=(a3x gg))))∧(((decide ((0:Int)≤gg.tests∧gg.tests≤(3:Int)))=(!true)) →
 false=(a3x gg))))):=by kernel_rfl
theorem d7x(hE:a0z [a5u]):Ctr.Good b0e:=by
 refine⟨a1g c3s rfl (by decide),?_⟩
 show ∀ (gg:a0t),True→a1h a0k b8b [.val ⟨(.st .sig),gg⟩] (·=[⟨.bool,a3x gg⟩])
 intro gg _
 refine a1k (wr:=[]) (cl:=[]) (ro:=[1]) hE c3s d3l (c7p gg) ?_
 rewrite [d8f gg]
 refine fun a0=>⟨fun a1=>fun a2=>?_,fun a1=>?_⟩
 all_goals try and_intros
 all_goals first|rfl|trivial|(simp_all [a3x];done)|(simp_all [a3x];omega)
theorem d3w:Ctr.Good b0e:=d7x ⟨c1u,trivial⟩
def a9c:Ctr:=⟨b6m,[.v (.st .sig)],fun (gg:a0t)=>⟨(some (0≤gg.tests∧gg.tests≤3),[⟨(.int .i64),a0i gg⟩])⟩⟩
def c4n(gg:a0t):Nat→a0w:=fun _ => .none
theorem d7b(gg:a0t):awp (a1c [] [] [] [1]) (a0m a6u) (c4n gg) 0 (a1m (a1c [] [] [] [1]) a6u fun r=>a2e r [⟨(.int .i64),a0i gg⟩]) (a0q a6u [.val ⟨(.st .sig),gg⟩]) =
 ((a0e gg.tests →
 (((0:Int)≤gg.tests∧(gg.tests<(64:Int)∧a0e ((1:Int) * 2 ^ gg.tests.toNat)))∧((1:Int) * 2 ^ gg.tests.toNat)=(a0i gg)))):=by kernel_rfl
theorem d6m(hE:a0z []):Ctr.Good a9c:=by
 refine⟨a1g c1p rfl (by decide),?_⟩
 show ∀ (gg:a0t),(0≤gg.tests∧gg.tests≤3)→a1h a0k b6m [.val ⟨(.st .sig),gg⟩] (·=[⟨(.int .i64),a0i gg⟩])
 intro gg hp
 refine a1k (wr:=[]) (cl:=[]) (ro:=[1]) hE c1p d2c (c4n gg) ?_
 rewrite [d7b gg]
 have f1:=a3u gg hp
 refine fun a0=>⟨⟨?_,⟨?_,?_⟩⟩,?_⟩
 all_goals try and_intros
 all_goals first|rfl|trivial|(simp only[decide_eq_true_eq,decide_eq_false_iff_not,a0j,a0e,d5x,d5w,e3j,e3i,a0i] at *;omega)
theorem d2g:Ctr.Good a9c:=d6m trivial
def a8b:Ctr:=⟨b5h,[.v (.st .sig)],fun (gg:a0t)=>⟨(some (0≤gg.tests∧gg.tests≤3),[⟨(.int .i64),a0i gg⟩])⟩⟩
def c2b(gg:a0t):Nat→a0w:=fun _ => .none
theorem d4n(gg:a0t):awp (a1c [] [] [] [1]) (a0m a6d) (c2b gg) 0 (a1m (a1c [] [] [] [1]) a6d fun r=>a2e r [⟨(.int .i64),a0i gg⟩]) (a0q a6d [.val ⟨(.st .sig),gg⟩]) =
 ((a0e gg.tests →
 (a3d .u64 gg.tests∧(((0:Int)≤gg.tests∧(gg.tests<(64:Int)∧a0e ((1:Int) * 2 ^ gg.tests.toNat)))∧((1:Int) * 2 ^ gg.tests.toNat)=(a0i gg))))):=by kernel_rfl
theorem d4g(hE:a0z []):Ctr.Good a8b:=by
 refine⟨a1g b9v rfl (by decide),?_⟩
 show ∀ (gg:a0t),(0≤gg.tests∧gg.tests≤3)→a1h a0k b5h [.val ⟨(.st .sig),gg⟩] (·=[⟨(.int .i64),a0i gg⟩])
 intro gg hp
 refine a1k (wr:=[]) (cl:=[]) (ro:=[1]) hE b9v c8r (c2b gg) ?_
 rewrite [d4n gg]
 have f1:=a3u gg hp
 refine fun a0=>⟨?_,⟨⟨?_,⟨?_,?_⟩⟩,?_⟩⟩
 all_goals try and_intros
 all_goals first|rfl|trivial|(simp only[decide_eq_true_eq,decide_eq_false_iff_not,a0j,a0e,d5x,d5w,e3j,e3i,a0i] at *;omega)
theorem c9m:Ctr.Good a8b:=d4g trivial
end
end Go.Proofs.YtmdefiphdgcijaaDoor

set_option linter.unusedVariables false
set_option linter.unusedSimpArgs false
set_option linter.unusedSectionVars false
set_option maxRecDepth 4000
set_option maxHeartbeats 4000000
namespace Go.Proofs.YtmdefiphdgcijaaDoor
noncomputable section
open Go.RowKit Go.Proofs
def a2w(c:UInt8)(a:List (List UInt8)×List UInt8)(b:UInt8):List (List UInt8)×List UInt8:=bif b == c then (a.1++[a.2],[]) else (a.1,a.2++[b])
def a3z(c:UInt8)(l:List UInt8):List (List UInt8)×List UInt8:=l.foldl (a2w c) ([],[])
def a0a(c:UInt8)(l:List UInt8):List (List UInt8):=(a3z c l).1++[(a3z c l).2]
theorem d3r(c:UInt8):∀ (l:List UInt8) (d e:List (List UInt8)) (x:List UInt8),l.foldl (a2w c) (d++e,x)=(d++(l.foldl (a2w c) (e,x)).1,(l.foldl (a2w c) (e,x)).2)
 | [],d,e,x=>rfl
 | b::l,d,e,x=>by
  simp only[List.foldl_cons,a2w]
  cases b == c
  ·simp only[cond_false];exact d3r c l d e (x++[b])
  ·simp only[cond_true,List.append_assoc];exact d3r c l d (e++[x]) []
theorem d3s(c:UInt8):∀ (l:List UInt8) (d:List (List UInt8)) (x:List UInt8),(∀ b∈l,(b == c)=false)→l.foldl (a2w c) (d,x)=(d,x++l)
 | [],d,x,_=>by simp
 | b::l,d,x,h=>by
  simp only[List.foldl_cons,a2w,h b (by simp),cond_false]
  rw[d3s c l d (x++[b]) (fun y hy=>h y (by simp[hy]))]
  simp
theorem c8z(c:UInt8)(l:List UInt8)(h:∀ b∈l,(b == c)=false):a0a c l=[l]:=by
 unfold a0a a3z
 rw[d3s c l [] [] h];rfl
theorem b6e(c:UInt8)(a r:List UInt8)(h:∀ b∈a,(b == c)=false):a0a c (a++c::r)=a::a0a c r:=by
 unfold a0a a3z
 rw[List.foldl_append,d3s c a [] [] h,List.foldl_cons]
 have e:a2w c ([],[]++a) c=([a]++[],[]):=by simp[a2w]
 rw[e,d3r]
 simp
theorem d9j(c:UInt8):∀ (k:Nat) (l:List UInt8),l.count c=k→Lib.splitK [c] 0 k l=a0a c l
 | 0,l,h=>by
  rw[c8z c l (fun b hb=>by
   have:=List.count_eq_zero.1 h
   cases e:b == c
   ·rfl
   ·rw[beq_iff_eq] at e;subst e;exact absurd hb this)]
  rfl
 | k+1,l,h=>by
  have hi:=Lib.index_one l c
  rcases Int.lt_or_le (Lib.indexByte l c) 0 with hn|hn
  ·have h1:Lib.indexByte l c = -1:=by have:=Lib.indexByte_ge l c;omega
   have h2:=Lib.indexByte_none h1
   have hm:c∈l:=List.count_pos_iff.1 (by omega)
   obtain⟨j,hj,e⟩:=List.getElem_of_mem hm
   exact absurd (by rw[List.getElem?_eq_getElem hj,e]) (h2 j)
  ·obtain⟨o,ho⟩:∃ o:Nat,Lib.indexByte l c=o:=⟨(Lib.indexByte l c).toNat,by omega⟩
   obtain⟨h1,h2⟩:=Lib.indexByte_some ho
   have hol:o<l.length:=(List.getElem?_eq_some_iff.1 h1).1
   have hd:l=l.take o++c::l.drop (o+1):=by
    conv=>lhs;rw[←List.take_append_drop o l]
    rw[List.drop_eq_getElem_cons hol]
    have:l[o]=c:=by simpa [List.getElem?_eq_getElem hol] using h1
    rw[this]
   have ha:∀ b∈l.take o,(b == c)=false:=by
    intro b hb
    obtain⟨j,hj,e⟩:=List.getElem_of_mem hb
    have hj':j<o:=by simp at hj;omega
    have e2:(l.take o)[j]?=some b:=by rw[List.getElem?_eq_getElem hj,e]
    have e3:l[j]?=some b:=by rw[List.getElem?_take,if_pos hj'] at e2;exact e2
    cases e':b == c
    ·rfl
    ·rw[beq_iff_eq] at e'
     rw[e'] at e3
     exact absurd e3 (h2 j hj')
   have hcnt:(l.drop (o+1)).count c=k:=by
    have e:=congrArg (List.count c) hd
    rw[h,List.count_append,List.count_cons_self] at e
    have:(l.take o).count c=0:=List.count_eq_zero.2 (fun hm=>by have:=ha c hm;simp at this)
    omega
   have hs:Lib.splitK [c] 0 (k+1) l=l.take o::Lib.splitK [c] 0 k (l.drop (o+1)):=by
    rw[Lib.splitK,hi,ho]
    rw[if_neg (by simp)]
    simp
   rw[hs,d9j c k _ hcnt]
   conv=>rhs;rw[hd]
   rw[b6e c _ _ ha]
theorem c9a(c:UInt8)(l:List UInt8)(b:UInt8):a3z c (l++[b])=a2w c (a3z c l) b:=by
 simp[a3z,List.foldl_append]
theorem a9r(c:UInt8)(l:List UInt8):(a0a c l).length≤l.length+1:=by
 have key:∀ (l:List UInt8) (d:List (List UInt8)) (x:List UInt8),(l.foldl (a2w c) (d,x)).1.length≤d.length+l.length:=by
  intro l
  induction l with
  | nil=>intro d x;simp
  | cons b l ih =>
   intro d x
   simp only[List.foldl_cons,a2w,List.length_cons]
   cases b == c
   ·have:=ih d (x++[b]);simp only[cond_false];omega
   ·have:=ih (d++[x]) [];simp only[cond_true,List.length_append,List.length_cons,List.length_nil] at this ⊢;omega
 have:=key l [] []
 simp only[a0a,a3z,List.length_append,List.length_cons,List.length_nil] at this ⊢;omega
def a5b(c:UInt8)(l:List UInt8):Nat:=l.length - (a3z c l).2.length
theorem c9b(c:UInt8):∀ (n:Nat) (l:List UInt8),l.length=n→(a3z c l).2=l.drop (a5b c l)∧(a3z c l).2.length≤l.length
 | 0,l,h=>by
  have:l=[]:=List.eq_nil_of_length_eq_zero h
  subst this;simp[a3z]
 | n+1,l,h=>by
  rcases List.eq_nil_or_concat l with e|⟨L,b,e⟩
  ·subst e;simp at h
  ·rw[List.concat_eq_append] at e
   subst e
   have ih:=c9b c n L (by simpa using h)
   have hF:a5b c L=L.length - (a3z c L).2.length:=rfl
   unfold a5b
   rw[c9a]
   unfold a2w
   cases b == c
   ·simp only[cond_false,List.length_append,List.length_cons,List.length_nil]
    refine⟨?_,by omega⟩
    rw[show L.length+(0+1) - ((a3z c L).2.length+(0+1))=a5b c L by omega,List.drop_append_of_le_length (by omega)]
    rw[←ih.1]
   ·simp
def bt(n:Int):UInt8:=UInt8.ofNat n.toNat
theorem f1p(b:UInt8)(n:Int)(h:0≤n∧n≤255):decide ((b.toNat:Int)=n)=(b == bt n):=by
 have e:(bt n).toNat=n.toNat:=by unfold bt;rw[UInt8.toNat_ofNat'];omega
 rw[Bool.eq_iff_iff,decide_eq_true_eq,beq_iff_eq]
 constructor
 ·intro h';apply UInt8.toNat_inj.1;omega
 ·intro h';rw[h',e];omega
theorem e7o(c:UInt8)(s:List UInt8)(i:Nat)(hi:i<s.length) :
  ((s.getD i 0 == c)=true→(a3z c (s.take (i+1))).1=(a3z c (s.take i)).1++[(s.take i).drop (a5b c (s.take i))]∧a5b c (s.take (i+1))=i+1) ∧
  ((s.getD i 0 == c)=false→(a3z c (s.take (i+1))).1=(a3z c (s.take i)).1∧a5b c (s.take (i+1))=a5b c (s.take i))∧a5b c (s.take i)≤i:=by
 have hs:=a2k 0 s i hi
 have ht:=c9b c _ (s.take i) rfl
 have hl:(s.take i).length=i:=by simp;omega
 have hl1:(s.take (i+1)).length=i+1:=by simp;omega
 refine⟨fun h=>?_,fun h=>?_,by unfold a5b;omega⟩
 ·unfold a5b
  rw[hl1,hs,c9a]
  unfold a2w
  rw[h]
  simp only[cond_true,List.length_nil]
  refine⟨?_,by omega⟩
  rw[←show a5b c (s.take i)=(s.take i).length - (a3z c (s.take i)).2.length from rfl,←ht.1]
 ·unfold a5b
  rw[hl1,hl,hs,c9a]
  unfold a2w
  rw[h]
  refine⟨rfl,?_⟩
  simp only[cond_false,List.length_append,List.length_cons,List.length_nil]
  omega
theorem e9o(c:UInt8)(s:List UInt8)(i:Nat)(hi:i≤s.length):(a3z c (s.take i)).1.length≤i∧a5b c (s.take i)≤i:=by
 have h:=a9r c (s.take i)
 simp only[a0a,List.length_append,List.length_cons,List.length_nil,List.length_take] at h
 have hl:(s.take i).length=i:=by simp;omega
 exact⟨by omega,by unfold a5b;omega⟩
theorem e9n(c:UInt8)(s:List UInt8)(i:Nat)(hi:s.length≤i):(a3z c (s.take i)).1++[s.drop (a5b c (s.take i))]=a0a c s:=by
 rw[List.take_of_length_le hi,←(c9b c _ s rfl).1];rfl
def a3v:Ctr:=⟨b5i,[.v .str, .v (.int .u8)],fun (s:List UInt8) (by_:Int)=>⟨(some (s.length≤1048576∧0≤by_∧by_≤255),[⟨(.slice .str),a0a (bt by_) s⟩])⟩⟩
def c2c(s:List UInt8)(by_:Int):Nat→a0w:=(fun zb=>if Nat.beq zb 0 then .mk (Nat) (fun i=>i≤s.length) (fun i=>s.length - i) [] [2,3,8] (fun i=>[(7, .imm ⟨(.int .i64),((i:Int):Int)⟩),(6, .imm ⟨(.int .i64),((a5b (bt by_) (s.take i):Int):Int)⟩),(5, .row 8)]) [0,1,4,5,6,7,9,10,11,12,13,14,15,16,17,18,19,20,21,22,23,24,25,26,27,28,29,30,31,32,33,34] (fun i=>[(8, .row d3h .str ((a3z (bt by_) (s.take i)).1:List (List UInt8)))]) [] [] (fun i=>fun _ => .none) else .none)
theorem d4o(s:List UInt8)(by_:Int):awp (a1c []) (a0m a6e) (c2c s by_) 0 (a1m (a1c []) a6e fun r=>a2e r [⟨(.slice .str),a0a (bt by_) s⟩]) (a0q a6e [.val ⟨.str,s⟩, .val ⟨(.int .u8),by_⟩]) =
 (((∃ i1:Nat,(i1≤s.length∧((s=s∧(by_=by_∧(True∧(True∧((0:Int)=(a5b (bt by_) (s.take i1):Int)∧((0:Int)=(i1:Int)∧True))))))∧([]=((a3z (bt by_) (s.take i1)).1)∧True))))∧(∀ i1:Nat,(i1≤s.length →
 (a0e ((s.length:Int)) →
 (((decide ((i1:Int)<((s.length:Int))))=true →
 (a0j (i1:Int) s.length∧(((decide ((((s.getD i1 0).toNat:Int))=by_))=true →
 (a7d (a5b (bt by_) (s.take i1):Int) (i1:Int) s.length∧(a2d (((a3z (bt by_) (s.take i1)).1).length+([((s.take i1).drop (Int.toNat (a5b (bt by_) (s.take i1):Int)))]).length) 16∧(a0e ((i1:Int)+(1:Int))∧(a0e ((i1:Int)+(1:Int))∧(∃ i2:Nat,(i2≤s.length∧(s.length - i2<s.length - i1∧((s=s∧(by_=by_∧(True∧(True∧(((i1:Int)+(1:Int))=(a5b (bt by_) (s.take i2):Int)∧(((i1:Int)+(1:Int))=(i2:Int)∧True))))))∧((((a3z (bt by_) (s.take i1)).1)++([((s.take i1).drop (Int.toNat (a5b (bt by_) (s.take i1):Int)))]))=((a3z (bt by_) (s.take i2)).1)∧True))))))))))∧((decide ((((s.getD i1 0).toNat:Int))=by_))=false →
 (a0e ((i1:Int)+(1:Int))∧(∃ i2:Nat,(i2≤s.length∧(s.length - i2<s.length - i1∧((s=s∧(by_=by_∧(True∧(True∧((a5b (bt by_) (s.take i1):Int)=(a5b (bt by_) (s.take i2):Int)∧(((i1:Int)+(1:Int))=(i2:Int)∧True))))))∧(((a3z (bt by_) (s.take i1)).1)=((a3z (bt by_) (s.take i2)).1)∧True))))))))))∧((decide ((i1:Int)<((s.length:Int))))=false →
 (a7d (a5b (bt by_) (s.take i1):Int) ((s.length:Int)) s.length∧(a2d (((a3z (bt by_) (s.take i1)).1).length+([((s.take (Int.toNat ((s.length:Int)))).drop (Int.toNat (a5b (bt by_) (s.take i1):Int)))]).length) 16∧(((a3z (bt by_) (s.take i1)).1)++([((s.take (Int.toNat ((s.length:Int)))).drop (Int.toNat (a5b (bt by_) (s.take i1):Int)))]))=(a0a (bt by_) s)))))))))):=by kernel_rfl
theorem d4h(hE:a0z []):Ctr.Good a3v:=by
 refine⟨a1g b9w rfl (by decide),?_⟩
 show ∀ (s:List UInt8) (by_:Int),(s.length≤1048576∧0≤by_∧by_≤255)→a1h a0k b5i [.val ⟨.str,s⟩, .val ⟨(.int .u8),by_⟩] (·=[⟨(.slice .str),a0a (bt by_) s⟩])
 intro s by_ hp
 refine a1k (wr:=[]) (cl:=[]) (ro:=[]) hE b9w c8s (c2c s by_) ?_
 rewrite [d4o s by_]
 have f0:=f1p
 refine⟨⟨0,⟨?_,⟨⟨rfl,⟨rfl,⟨trivial,⟨trivial,⟨?_,⟨?_,trivial⟩⟩⟩⟩⟩⟩,⟨?_,trivial⟩⟩⟩⟩,fun i1 a0=>have b0x0:=e7o (bt by_) s i1;have b0x1:=e9o (bt by_) s i1;have b0x2:=e9n (bt by_) s i1;fun a1=>⟨fun a2=>⟨?_,⟨fun a3=>⟨?_,⟨?_,⟨?_,⟨?_,⟨i1+1,⟨?_,⟨?_,⟨⟨rfl,⟨rfl,⟨trivial,⟨trivial,⟨?_,⟨?_,trivial⟩⟩⟩⟩⟩⟩,⟨?_,trivial⟩⟩⟩⟩⟩⟩⟩⟩⟩,fun a3=>⟨?_,⟨i1+1,⟨?_,⟨?_,⟨⟨rfl,⟨rfl,⟨trivial,⟨trivial,⟨?_,⟨?_,trivial⟩⟩⟩⟩⟩⟩,⟨?_,trivial⟩⟩⟩⟩⟩⟩⟩⟩,fun a2=>⟨?_,⟨?_,?_⟩⟩⟩⟩
 all_goals try and_intros
 all_goals first|rfl|trivial|omega|(simp only[decide_eq_true_eq,decide_eq_false_iff_not,a0j,a0e,a7d,a2d,List.length_append,List.length_cons,List.length_nil] at *;first|omega|grind)|grind
theorem b7k:Ctr.Good a3v:=d4h trivial
def a2o:Ctr:=⟨c2f,[.v .str, .v .str],fun (s:List UInt8) (p:List UInt8)=>⟨(some (p.length=1∧s.length≤1048576),[⟨(.slice .str),a0a (p.getD 0 0) s⟩])⟩⟩
open Go.Lib in
set_option maxRecDepth 100000 in
theorem e3o(s:ByteArray)(c:UInt8)(w:World)(hs:s.size≤1048576):Calls Tryd.prog 14 #[.string s, .string ⟨#[c]⟩] w fun e w' =>
  e = .returned (.slice (some ⟨w.heap.size,0,none⟩) (Lib.splitB ⟨#[c]⟩ 0 (Lib.countB s ⟨#[c]⟩) s).length (Lib.splitB ⟨#[c]⟩ 0 (Lib.countB s ⟨#[c]⟩) s).length) ∧
   w'=w.alloc (.cells ((Lib.splitB ⟨#[c]⟩ 0 (Lib.countB s ⟨#[c]⟩) s).map Value.string).toArray 9):=by
 have h1:1≤(⟨#[c]⟩:ByteArray).size:=Nat.le_refl 1
 have hle:=Lib.countB_le ⟨#[c]⟩ h1 s.size s (Nat.le_refl _)
 have hlen:=Lib.splitB_all ⟨#[c]⟩ h1 0 _ s rfl
 have hI:∀ (x:ByteArray) (cs:Array Value),x.size≤s.size→Calls Tryd.prog 44 #[.string x, .string ⟨#[c]⟩] (w.alloc (.cells cs 9)) fun e w'=>e = .returned (.int .i64 (Lib.indexB x ⟨#[c]⟩))∧w'=w.alloc (.cells cs 9):=fun x cs _=>by
  have e:Lib.indexB x ⟨#[c]⟩=Lib.indexByte x.data.toList c:=Lib.index_one x.data.toList c
  rw[e]
  exact Tryd.strings_Index_one x c _
 have hC:Calls Tryd.prog 43 #[.string s, .string ⟨#[c]⟩] w fun e w'=>e = .returned (.int .i64 (Lib.countB s ⟨#[c]⟩))∧w'=w:=by
  refine (Tryd.strings_Count_one s c w).mono fun e w' ⟨he,hw⟩=>⟨?_,hw⟩
  rw[he]
  show _=Ending.returned (Value.int .i64 ((Lib.count s.data.toList [c]:Nat):Int))
  rw[Lib.count_one]
  rfl
 have cc:=Any.strings_genSplit_core Tryd.lays221 (by kernel_rfl) s ⟨#[c]⟩ 0 (-1) (Lib.countB s ⟨#[c]⟩+1) w (by omega) h1 (Nat.zero_le _) hI hC (by decide) (by decide) (by rw[if_pos (by decide)];omega)
 rw[Nat.add_sub_cancel,hlen] at cc
 have e2:Lib.cellsOf (Lib.splitB ⟨#[c]⟩ 0 (Lib.countB s ⟨#[c]⟩) s) (Lib.countB s ⟨#[c]⟩+1)=((Lib.splitB ⟨#[c]⟩ 0 (Lib.countB s ⟨#[c]⟩) s).map Value.string).toArray:=by rw[←hlen];exact Lib.cellsOf_full _
 rw[e2] at cc
 rw[hlen]
 go_enter Tryd.func14,Tryd.ntmps14
 go_wp2_with (go_at_call 29;refine cc.mono ?_)
 rintro e w1 ⟨he,hw⟩;subst he;rw[hw]
 go_wp2
 go_ret
 exact⟨rfl,rfl⟩
theorem d6u{w:World}{S:Nat→Prop}:∀ (L:List ByteArray) (b o:Nat),(∀ j v,(L.map Value.string)[j]?=some v→w.cell? ⟨b,o+j,none⟩=some v)→(∀ x∈L,x.size≤140737488355328) →
  a1q w S (L.map fun x=>D.str x.data.toList) b o
 | [],_,_,_,_=>trivial
 | x::L,b,o,h,hs=>by
  refine⟨⟨[.string x],rfl,⟨x,rfl,rfl,hs x (by simp)⟩,?_⟩,?_⟩
  ·intro j v hj
   match j,hj with
   | 0,hj=>exact h 0 v (by simpa using hj)
  ·refine d6u L b _ (fun j v hj=>?_) (fun y hy=>hs y (by simp[hy]))
   have:=h (j+1) v (by simpa using hj)
   rw[show o+(D.str x.data.toList).size+j=o+(j+1) by simp[D.size];omega]
   exact this
theorem d8l(c:UInt8):∀ (k:Nat) (l:List UInt8),∀ p∈Lib.splitK [c] 0 k l,p.length≤l.length
 | 0,l,p,h=>by simp[Lib.splitK] at h;rw[h];exact Nat.le_refl _
 | k+1,l,p,h=>by
  unfold Lib.splitK at h
  split at h
  ·simp at h;rw[h];exact Nat.le_refl _
  ·rcases List.mem_cons.1 h with e|e
   ·rw[e];simp;omega
   ·have:=d8l c k _ p e
    simp at this;omega
theorem b0t:Ctr.Good a2o:=by
 refine⟨a1g d3i rfl (by decide),?_⟩
 intro (s:List UInt8) (p:List UInt8) hp w S vals ⟨hS,_⟩ ha
 match vals,ha with
 | [v,u],ha =>
  obtain⟨⟨x,hv,hx,hxl⟩,⟨y,hu,hy,hyl⟩,_⟩:=ha
  simp only[List.cons.injEq,and_true] at hv hu
  subst hv hu
  obtain⟨hp1,hp2⟩:p.length=1∧s.length≤1048576:=hp
  obtain⟨c,rfl⟩:∃ c,p=[c]:=List.length_eq_one_iff.1 hp1
  have hyc:y=⟨#[c]⟩:=by
   obtain⟨d⟩:=y
   have:d.toList=[c]:=hy
   congr 1
   exact Array.toList_inj.1 this
  subst hyc
  have hxs:x.size≤1048576:=by
   have:x.data.toList.length=s.length:=congrArg List.length hx
   rw[Lib.size_eq,this];exact hp2
  have hcnt:Lib.countB x ⟨#[c]⟩=s.count c:=by
   show Lib.count x.data.toList [c]=_
   rw[Lib.count_one]
   show x.data.toList.count c=_
   rw[show x.data.toList=s from hx]
  have hdata:(Lib.splitB ⟨#[c]⟩ 0 (Lib.countB x ⟨#[c]⟩) x).map (·.data.toList)=a0a c s:=by
   rw[Lib.splitB_data,hcnt,show x.data.toList=s from hx]
   exact d9j c _ s rfl
  have hlen:(a0a c s).length=(Lib.splitB ⟨#[c]⟩ 0 (Lib.countB x ⟨#[c]⟩) x).length:=by rw[←hdata];simp
  have hcl:=a9r c s
  have hpc:∀ z∈Lib.splitB ⟨#[c]⟩ 0 (Lib.countB x ⟨#[c]⟩) x,z.size≤140737488355328:=fun z hz=>by
   have hm:z.data.toList∈Lib.splitK [c] 0 (Lib.countB x ⟨#[c]⟩) x.data.toList:=by
    rw[←show ((⟨#[c]⟩:ByteArray).data.toList)=[c] from rfl,←Lib.splitB_data]
    exact List.mem_map.2 ⟨z,hz,rfl⟩
   have:=d8l c _ _ _ hm
   have e1:z.size=z.data.toList.length:=Lib.size_eq z
   have e2:x.size=x.data.toList.length:=Lib.size_eq x
   omega
  refine (e3o x c w hxs).mono ?_
  generalize Lib.splitB ⟨#[c]⟩ 0 (Lib.countB x ⟨#[c]⟩) x=L at hdata hlen hpc
  rintro e w' ⟨rfl,rfl⟩
  refine⟨_,fun b=>S b∨b=w.heap.size,_,rfl,rfl,⟨rfl,rfl,rfl,by simp,fun b hb _=>Lib.alloc_old w _ b hb⟩,fun b hb=>⟨fun h=>h.elim id (fun e=>by omega),Or.inl⟩,fun b h=>?_,?_⟩
  ·rcases h with h|h
   ·have:=hS b h;simp;omega
   ·subst h;simp
  ·show Rd _ _ (TV.toD ⟨.slice .str,a0a c s⟩) [_]
   have e1:TV.toD ⟨.slice .str,a0a c s⟩ = .slice 1 (L.map fun z=>D.str z.data.toList):=by
    show D.slice _ _=_
    congr 1
    show (a0a c s).map _=_
    rw[←hdata,List.map_map];rfl
   rw[e1]
   refine⟨_,L.length,by rw[List.length_map],by simp,by unfold maxLen;omega,by simp;omega, .inr ⟨w.heap.size,0,rfl, .inr rfl,d6u L _ _ (fun j v hj=>?_) hpc⟩⟩
   rw[Lib.cell_of_heap (heap_alloc_new w _)]
   simpa using hj
def a9t(b:UInt8):Bool:=decide (48≤b.toNat)&&decide (b.toNat≤57)
def a2q(s:List UInt8):Int:=s.foldl (fun n b=>n * 10+((b.toNat:Int) - 48)) 0
def a1a(m:Int)(s:List UInt8):Bool:=decide (1≤s.length)&&decide ((s.length:Int)≤m) && !(decide (1<s.length)&&decide ((s.getD 0 0).toNat=48))&&a1j a9t s
def a0n(m:Int)(s:List UInt8):Int:=bif a1a m s then a2q s else 0
theorem c9c(s:List UInt8)(k:Nat)(h:k<s.length):a2q (s.take (k+1))=a2q (s.take k) * 10+(((s.getD k 0).toNat:Int) - 48):=by
 rw[a2k 0 s k h]
 simp[a2q,List.foldl_append]
theorem e2v:∀ (k:Nat) (s:List UInt8),k≤s.length→a1j a9t (s.take k)=true→0≤a2q (s.take k)∧a2q (s.take k)<10 ^ k
 | 0,s,_,_=>by simp[a2q]
 | k+1,s,h,ha=>by
  have h1:=a6f a9t 0 s k (by omega)
  rw[ha] at h1
  have h1':=h1.symm
  simp only[Bool.and_eq_true] at h1'
  obtain⟨h2,h3⟩:=h1'
  have ih:=e2v k s (by omega) h2
  rw[c9c s k (by omega)]
  simp only[a9t,Bool.and_eq_true,decide_eq_true_eq] at h3
  have:(10:Int) ^ (k+1)=10 ^ k * 10:=by rw[Int.pow_succ]
  omega
theorem e3w(s:List UInt8)(k:Nat)(h:k≤s.length)(h9:s.length≤9)(ha:a1j a9t (s.take k)=true):0≤a2q (s.take k)∧a2q (s.take k)≤1000000000:=by
 have:=e2v k s h ha
 have h2:(10:Int) ^ k≤10 ^ 9:=by
  have:(10:Nat) ^ k≤10 ^ 9:=Nat.pow_le_pow_right (by decide) (by omega)
  exact_mod_cast this
 omega
theorem e5m(s:List UInt8)(k:Nat):a9t (s.getD k 0)=(decide (48≤(s.getD k 0).toNat)&&decide ((s.getD k 0).toNat≤57)):=rfl
theorem e6z:IntKind.u8.min=0:=rfl
theorem e6y:IntKind.u8.max=255:=rfl
theorem d8q(n:Int):a3d .u8 n↔0≤n∧n≤255:=Iff.rfl
theorem d2y(n:Int):a3d .i64 n↔a0e n:=Iff.rfl
theorem d1q(m:Int)(s:List UInt8):a1a m s=(decide (1≤s.length)&&decide ((s.length:Int)≤m) && !(decide (1<s.length)&&decide ((s.getD 0 0).toNat=48))&&a1j a9t s):=rfl
theorem d6k(m:Int)(s:List UInt8)(h:¬ (1≤s.length∧(s.length:Int)≤m∧¬ (1<s.length∧(s.getD 0 0).toNat=48))):a0n m s=0∧a1a m s=false:=by
 have e:a1a m s=false:=by
  cases hb:a1a m s with
  | false=>rfl
  | true =>
   rw[d1q] at hb
   simp only[Bool.and_eq_true,decide_eq_true_eq,Bool.not_eq_true',Bool.and_eq_false_iff,decide_eq_false_iff_not] at hb
   exact absurd ⟨hb.1.1.1,hb.1.1.2,fun h=>by rcases hb.1.2 with g|g<;>omega⟩ h
 exact⟨by simp[a0n,e],e⟩
structure b2g(m:Int)(s:List UInt8)(k:Nat):Prop where
 len:k≤s.length∧s.length≤9
 ok:1≤s.length∧(s.length:Int)≤m∧¬ (1<s.length∧(s.getD 0 0).toNat=48)
 all:a1j a9t (s.take k)=true
theorem e1s(m:Int)(s:List UInt8)(h:1≤s.length∧(s.length:Int)≤m∧¬ (1<s.length∧(s.getD 0 0).toNat=48))(hm:m≤9):b2g m s 0 :=
 ⟨⟨by omega,by omega⟩,h,by simp[a1j]⟩
theorem d1r(m:Int)(s:List UInt8)(k:Nat)(h:b2g m s k)(hk:k<s.length)(hb:(s.getD k 0).toNat<48∨57<(s.getD k 0).toNat):a0n m s=0∧a1a m s=false:=by
 have e:a1j a9t s=false:=b3w a9t 0 s k hk (by rw[e5m,Bool.and_eq_false_iff,decide_eq_false_iff_not,decide_eq_false_iff_not];omega)
 have e':a1a m s=false:=by rw[d1q,e];simp
 exact⟨by simp[a0n,e'],e'⟩
theorem b6r(m:Int)(s:List UInt8)(k:Nat)(h:b2g m s k)(hk:k<s.length)(h1:48≤(s.getD k 0).toNat)(h2:(s.getD k 0).toNat≤57):b2g m s (k+1)∧a2q (s.take (k+1))=a2q (s.take k) * 10+(((s.getD k 0).toNat:Int) - 48) :=
 ⟨⟨⟨hk,h.len.2⟩,h.ok,by rw[a6f a9t 0 s k hk,h.all,e5m,decide_eq_true h1,decide_eq_true h2];rfl⟩,c9c s k hk⟩
theorem d1s(m:Int)(s:List UInt8)(k:Nat)(h:b2g m s k)(hk:s.length≤k):a0n m s=a2q (s.take k)∧a1a m s=true:=by
 have e:s.take k=s:=List.take_of_length_le hk
 have ha:=h.all
 rw[e] at ha
 have e':a1a m s=true:=by
  rw[d1q,ha]
  have:=h.ok
  simp only[Bool.and_eq_true,decide_eq_true_eq,Bool.not_eq_true',Bool.and_eq_false_iff,decide_eq_false_iff_not]
  exact⟨⟨⟨this.1,this.2.1⟩,(Nat.lt_or_ge 1 s.length).elim (fun g => .inr (by omega)) (fun g => .inl (by omega))⟩,trivial⟩
 exact⟨by rw[e];simp[a0n,e'],e'⟩
theorem e6g(m:Int)(s:List UInt8)(k:Nat)(h:b2g m s k):k≤s.length∧0≤a2q (s.take k)∧a2q (s.take k)≤1000000000 :=
 ⟨h.len.1,e3w s k h.len.1 h.len.2 h.all⟩
def a4x:Ctr:=⟨b7z,[.v .str, .v (.int .i64)],fun (s:List UInt8) (m:Int)=>⟨(some (0≤m∧m≤9),[⟨(.int .i64),a0n m s⟩,⟨.bool,a1a m s⟩])⟩⟩
def c7n(s:List UInt8)(m:Int):Nat→a0w:=(fun zb=>if Nat.beq zb 0 then .mk (Nat) (fun k=>b2g m s k) (fun k=>s.length - k) [] [1,2,3,8,9,10,11,12,13,14,15,16,17,18,19,20,21,22,23,24,25,26,27] (fun k=>[(29, .imm ⟨(.int .i64),((k:Int):Int)⟩),(6, .imm ⟨(.int .i64),(a2q (s.take k):Int)⟩)]) [0,4,5,6,7,28,29,30,31,32,33,34,35,36,37,38,39,40,41,42,43,44,45,46,47,48,49,50,51] (fun k=>[]) [] [] (fun k=>fun _ => .none) else .none)
abbrev c1v(s:List UInt8)(m:Int)(k1:Nat):Prop:=(a0e ((10:Int) * (a2q (s.take k1)))∧(a0j (k1:Int) s.length∧(a3d .u8 ((((s.getD k1 0).toNat:Int)) - (48:Int))∧(a0e ((((s.getD k1 0).toNat:Int)) - (48:Int))∧(a0e (((10:Int) * (a2q (s.take k1)))+((((s.getD k1 0).toNat:Int)) - (48:Int)))∧(a0e ((k1:Int)+(1:Int))∧(∃ k2:Nat,(b2g m s k2∧(s.length - k2<s.length - k1∧((s=s∧((((10:Int) * (a2q (s.take k1)))+((((s.getD k1 0).toNat:Int)) - (48:Int)))=(a2q (s.take k2))∧(((s.length:Int))=((s.length:Int))∧(((k1:Int)+(1:Int))=(k2:Int)∧True))))∧True))))))))))
abbrev b0p(s:List UInt8)(m:Int):Prop:=(a0e ((s.length:Int)) →
 ((∃ k1:Nat,(b2g m s k1∧((s=s∧((0:Int)=(a2q (s.take k1))∧(((s.length:Int))=((s.length:Int))∧((0:Int)=(k1:Int)∧True))))∧True)))∧(∀ k1:Nat,(b2g m s k1 →
 (((decide ((k1:Int)<((s.length:Int))))=true →
 (a0j (k1:Int) s.length∧(((decide ((((s.getD k1 0).toNat:Int))<(48:Int)))=false →
 (a0j (k1:Int) s.length∧(((decide ((57:Int)<(((s.getD k1 0).toNat:Int))))=true →
 ((0:Int)=(a0n m s)∧false=(a1a m s)))∧((decide ((57:Int)<(((s.getD k1 0).toNat:Int))))=false →
 (c1v s m k1)))))∧((decide ((((s.getD k1 0).toNat:Int))<(48:Int)))=(!false) →
 ((true=true →
 ((0:Int)=(a0n m s)∧false=(a1a m s)))∧(true=false →
 (c1v s m k1)))))))∧((decide ((k1:Int)<((s.length:Int))))=false →
 ((a2q (s.take k1))=(a0n m s)∧true=(a1a m s))))))))
abbrev c1w(s:List UInt8)(m:Int):Prop:=(a0e ((s.length:Int)) →
 (((decide ((1:Int)<((s.length:Int))))=true →
 (a0j (0:Int) s.length∧(((decide ((((s.getD 0 0).toNat:Int))=(48:Int)))=true →
 ((0:Int)=(a0n m s)∧false=(a1a m s)))∧((decide ((((s.getD 0 0).toNat:Int))=(48:Int)))=false →
 (b0p s m)))))∧((decide ((1:Int)<((s.length:Int))))=(!true) →
 ((false=true →
 ((0:Int)=(a0n m s)∧false=(a1a m s)))∧(false=false →
 (b0p s m))))))
theorem d8d(s:List UInt8)(m:Int):awp (a1c []) (a0m a7m) (c7n s m) 0 (a1m (a1c []) a7m fun r=>a2e r [⟨(.int .i64),a0n m s⟩,⟨.bool,a1a m s⟩]) (a0q a7m [.val ⟨.str,s⟩, .val ⟨(.int .i64),m⟩]) =
 ((a0e ((s.length:Int)) →
 (((decide (((s.length:Int))<(1:Int)))=false →
 (a0e ((s.length:Int)) →
 (((decide (m<((s.length:Int))))=false →
 (c1w s m))∧((decide (m<((s.length:Int))))=(!false) →
 ((true=true →
 ((0:Int)=(a0n m s)∧false=(a1a m s)))∧(true=false →
 (b0p s m)))))))∧((decide (((s.length:Int))<(1:Int)))=(!false) →
 ((true=false →
 (c1w s m))∧(true=(!false) →
 ((true=true →
 ((0:Int)=(a0n m s)∧false=(a1a m s)))∧(true=false →
 (b0p s m))))))))):=by kernel_rfl
theorem d7v(hE:a0z []):Ctr.Good a4x:=by
 refine⟨a1g c3q rfl (by decide),?_⟩
 show ∀ (s:List UInt8) (m:Int),(0≤m∧m≤9)→a1h a0k b7z [.val ⟨.str,s⟩, .val ⟨(.int .i64),m⟩] (·=[⟨(.int .i64),a0n m s⟩,⟨.bool,a1a m s⟩])
 intro s m hp
 refine a1k (wr:=[]) (cl:=[]) (ro:=[]) hE c3q d3j (c7n s m) ?_
 rewrite [d8d s m]
 have f1:a2q (s.take 0)=0:=by simp[a2q]
 refine fun a0=>⟨fun a1=>fun a2=>⟨fun a3=>fun a4=>⟨fun a5=>⟨?_,⟨fun a6=>⟨?_,?_⟩,fun a6=>fun a7=>⟨⟨0,⟨?_,⟨⟨rfl,⟨?_,⟨rfl,⟨?_,trivial⟩⟩⟩⟩,trivial⟩⟩⟩,fun k1=>fun a8=>⟨fun a9=>⟨?_,⟨fun a10=>⟨?_,⟨fun a11=>⟨?_,?_⟩,fun a11=>⟨?_,⟨?_,⟨?_,⟨?_,⟨?_,⟨?_,⟨k1+1,⟨?_,⟨?_,⟨⟨rfl,⟨?_,⟨rfl,⟨?_,trivial⟩⟩⟩⟩,trivial⟩⟩⟩⟩⟩⟩⟩⟩⟩⟩⟩⟩,fun a10=>⟨fun a11=>⟨?_,?_⟩,fun a11=>⟨?_,⟨?_,⟨?_,⟨?_,⟨?_,⟨?_,⟨k1+1,⟨?_,⟨?_,⟨⟨rfl,⟨?_,⟨rfl,⟨?_,trivial⟩⟩⟩⟩,trivial⟩⟩⟩⟩⟩⟩⟩⟩⟩⟩⟩⟩⟩,fun a9=>⟨?_,?_⟩⟩⟩⟩⟩,fun a5=>⟨fun a6=>⟨?_,?_⟩,fun a6=>fun a7=>⟨⟨0,⟨?_,⟨⟨rfl,⟨?_,⟨rfl,⟨?_,trivial⟩⟩⟩⟩,trivial⟩⟩⟩,fun k1=>fun a8=>⟨fun a9=>⟨?_,⟨fun a10=>⟨?_,⟨fun a11=>⟨?_,?_⟩,fun a11=>⟨?_,⟨?_,⟨?_,⟨?_,⟨?_,⟨?_,⟨k1+1,⟨?_,⟨?_,⟨⟨rfl,⟨?_,⟨rfl,⟨?_,trivial⟩⟩⟩⟩,trivial⟩⟩⟩⟩⟩⟩⟩⟩⟩⟩⟩⟩,fun a10=>⟨fun a11=>⟨?_,?_⟩,fun a11=>⟨?_,⟨?_,⟨?_,⟨?_,⟨?_,⟨?_,⟨k1+1,⟨?_,⟨?_,⟨⟨rfl,⟨?_,⟨rfl,⟨?_,trivial⟩⟩⟩⟩,trivial⟩⟩⟩⟩⟩⟩⟩⟩⟩⟩⟩⟩⟩,fun a9=>⟨?_,?_⟩⟩⟩⟩⟩,fun a3=>⟨fun a4=>⟨?_,?_⟩,fun a4=>fun a5=>⟨⟨0,⟨?_,⟨⟨rfl,⟨?_,⟨rfl,⟨?_,trivial⟩⟩⟩⟩,trivial⟩⟩⟩,fun k1=>fun a6=>⟨fun a7=>⟨?_,⟨fun a8=>⟨?_,⟨fun a9=>⟨?_,?_⟩,fun a9=>⟨?_,⟨?_,⟨?_,⟨?_,⟨?_,⟨?_,⟨k1+1,⟨?_,⟨?_,⟨⟨rfl,⟨?_,⟨rfl,⟨?_,trivial⟩⟩⟩⟩,trivial⟩⟩⟩⟩⟩⟩⟩⟩⟩⟩⟩⟩,fun a8=>⟨fun a9=>⟨?_,?_⟩,fun a9=>⟨?_,⟨?_,⟨?_,⟨?_,⟨?_,⟨?_,⟨k1+1,⟨?_,⟨?_,⟨⟨rfl,⟨?_,⟨rfl,⟨?_,trivial⟩⟩⟩⟩,trivial⟩⟩⟩⟩⟩⟩⟩⟩⟩⟩⟩⟩⟩,fun a7=>⟨?_,?_⟩⟩⟩⟩⟩,fun a1=>⟨fun a2=>fun a3=>⟨fun a4=>⟨?_,⟨fun a5=>⟨?_,?_⟩,fun a5=>fun a6=>⟨⟨0,⟨?_,⟨⟨rfl,⟨?_,⟨rfl,⟨?_,trivial⟩⟩⟩⟩,trivial⟩⟩⟩,fun k1=>fun a7=>⟨fun a8=>⟨?_,⟨fun a9=>⟨?_,⟨fun a10=>⟨?_,?_⟩,fun a10=>⟨?_,⟨?_,⟨?_,⟨?_,⟨?_,⟨?_,⟨k1+1,⟨?_,⟨?_,⟨⟨rfl,⟨?_,⟨rfl,⟨?_,trivial⟩⟩⟩⟩,trivial⟩⟩⟩⟩⟩⟩⟩⟩⟩⟩⟩⟩,fun a9=>⟨fun a10=>⟨?_,?_⟩,fun a10=>⟨?_,⟨?_,⟨?_,⟨?_,⟨?_,⟨?_,⟨k1+1,⟨?_,⟨?_,⟨⟨rfl,⟨?_,⟨rfl,⟨?_,trivial⟩⟩⟩⟩,trivial⟩⟩⟩⟩⟩⟩⟩⟩⟩⟩⟩⟩⟩,fun a8=>⟨?_,?_⟩⟩⟩⟩⟩,fun a4=>⟨fun a5=>⟨?_,?_⟩,fun a5=>fun a6=>⟨⟨0,⟨?_,⟨⟨rfl,⟨?_,⟨rfl,⟨?_,trivial⟩⟩⟩⟩,trivial⟩⟩⟩,fun k1=>fun a7=>⟨fun a8=>⟨?_,⟨fun a9=>⟨?_,⟨fun a10=>⟨?_,?_⟩,fun a10=>⟨?_,⟨?_,⟨?_,⟨?_,⟨?_,⟨?_,⟨k1+1,⟨?_,⟨?_,⟨⟨rfl,⟨?_,⟨rfl,⟨?_,trivial⟩⟩⟩⟩,trivial⟩⟩⟩⟩⟩⟩⟩⟩⟩⟩⟩⟩,fun a9=>⟨fun a10=>⟨?_,?_⟩,fun a10=>⟨?_,⟨?_,⟨?_,⟨?_,⟨?_,⟨?_,⟨k1+1,⟨?_,⟨?_,⟨⟨rfl,⟨?_,⟨rfl,⟨?_,trivial⟩⟩⟩⟩,trivial⟩⟩⟩⟩⟩⟩⟩⟩⟩⟩⟩⟩⟩,fun a8=>⟨?_,?_⟩⟩⟩⟩⟩,fun a2=>⟨fun a3=>⟨?_,?_⟩,fun a3=>fun a4=>⟨⟨0,⟨?_,⟨⟨rfl,⟨?_,⟨rfl,⟨?_,trivial⟩⟩⟩⟩,trivial⟩⟩⟩,fun k1=>fun a5=>⟨fun a6=>⟨?_,⟨fun a7=>⟨?_,⟨fun a8=>⟨?_,?_⟩,fun a8=>⟨?_,⟨?_,⟨?_,⟨?_,⟨?_,⟨?_,⟨k1+1,⟨?_,⟨?_,⟨⟨rfl,⟨?_,⟨rfl,⟨?_,trivial⟩⟩⟩⟩,trivial⟩⟩⟩⟩⟩⟩⟩⟩⟩⟩⟩⟩,fun a7=>⟨fun a8=>⟨?_,?_⟩,fun a8=>⟨?_,⟨?_,⟨?_,⟨?_,⟨?_,⟨?_,⟨k1+1,⟨?_,⟨?_,⟨⟨rfl,⟨?_,⟨rfl,⟨?_,trivial⟩⟩⟩⟩,trivial⟩⟩⟩⟩⟩⟩⟩⟩⟩⟩⟩⟩⟩,fun a6=>⟨?_,?_⟩⟩⟩⟩⟩⟩
 all_goals try and_intros
 all_goals first|rfl|trivial|omega|((try simp only[Bool.not_true,Bool.not_false,decide_eq_true_eq,decide_eq_false_iff_not,a0j,d8q,d2y,a0e,e6z,e6y] at *);first|omega|exact (d6k m s (by omega)).1.symm|exact (d6k m s (by omega)).2.symm|exact e1s m s (by omega) (by omega)|(have hq:b2g m s k1:=(by with_reducible assumption);have hl:=e6g m s k1 hq;first|omega|exact (d1r m s k1 hq (by omega) (by omega)).1.symm|exact (d1r m s k1 hq (by omega) (by omega)).2.symm|exact (b6r m s k1 hq (by omega) (by omega) (by omega)).1|exact (b6r m s k1 hq (by omega) (by omega) (by omega)).2.symm|(rw[(b6r m s k1 hq (by omega) (by omega) (by omega)).2];omega)|exact (d1s m s k1 hq (by omega)).1.symm|exact (d1s m s k1 hq (by omega)).2.symm))
theorem c0h:Ctr.Good a4x:=d7v trivial
def a3e:Ctr:=⟨b3p,[.v .str],fun (s:List UInt8)=>⟨(none,[⟨(.int .i64),a0n 9 s⟩,⟨.bool,a1a 9 s⟩])⟩⟩
def c0p(s:List UInt8):Nat→a0w:=(fun zb=>if Nat.beq zb 0 then .mk (Nat) (fun k=>b2g 9 s k) (fun k=>s.length - k) [] [1,6,7,8,9,10,11,12,13,14,15,16,17,18,19,20,21,22,23] (fun k=>[(5, .imm ⟨(.int .i64),((k:Int):Int)⟩),(4, .imm ⟨(.int .i64),(a2q (s.take k):Int)⟩)]) [0,2,3,4,5,24,25,26,27,28,29,30,31,32,33,34,35,36,37,38,39,40,41,42,43,44,45,46,47,48] (fun k=>[]) [] [] (fun k=>fun _ => .none) else .none)
abbrev b7n(s:List UInt8)(k1:Nat):Prop:=(a0e ((a2q (s.take k1)) * (10:Int))∧(a0j (k1:Int) s.length∧(a3d .u8 ((((s.getD k1 0).toNat:Int)) - (48:Int))∧(a0e ((((s.getD k1 0).toNat:Int)) - (48:Int))∧(a0e (((a2q (s.take k1)) * (10:Int))+((((s.getD k1 0).toNat:Int)) - (48:Int)))∧(a0e ((k1:Int)+(1:Int))∧(∃ k2:Nat,(b2g 9 s k2∧(s.length - k2<s.length - k1∧((s=s∧((((a2q (s.take k1)) * (10:Int))+((((s.getD k1 0).toNat:Int)) - (48:Int)))=(a2q (s.take k2))∧(((k1:Int)+(1:Int))=(k2:Int)∧True)))∧True))))))))))
abbrev a7x(s:List UInt8):Prop:=((∃ k1:Nat,(b2g 9 s k1∧((s=s∧((0:Int)=(a2q (s.take k1))∧((0:Int)=(k1:Int)∧True)))∧True)))∧(∀ k1:Nat,(b2g 9 s k1 →
 (a0e ((s.length:Int)) →
 (((decide ((k1:Int)<((s.length:Int))))=true →
 (a0j (k1:Int) s.length∧(((decide ((((s.getD k1 0).toNat:Int))<(48:Int)))=false →
 (a0j (k1:Int) s.length∧(((decide ((57:Int)<(((s.getD k1 0).toNat:Int))))=true →
 ((0:Int)=(a0n 9 s)∧false=(a1a 9 s)))∧((decide ((57:Int)<(((s.getD k1 0).toNat:Int))))=false →
 (b7n s k1)))))∧((decide ((((s.getD k1 0).toNat:Int))<(48:Int)))=(!false) →
 ((true=true →
 ((0:Int)=(a0n 9 s)∧false=(a1a 9 s)))∧(true=false →
 (b7n s k1)))))))∧((decide ((k1:Int)<((s.length:Int))))=false →
 ((a2q (s.take k1))=(a0n 9 s)∧true=(a1a 9 s))))))))
abbrev b7o(s:List UInt8):Prop:=(a0j (0:Int) s.length∧(((decide ((((s.getD 0 0).toNat:Int))=(48:Int)))=true →
 (a0e ((s.length:Int)) →
 (((decide ((1:Int)<((s.length:Int))))=true →
 ((0:Int)=(a0n 9 s)∧false=(a1a 9 s)))∧((decide ((1:Int)<((s.length:Int))))=false →
 (a7x s)))))∧((decide ((((s.getD 0 0).toNat:Int))=(48:Int)))=(!true) →
 ((false=true →
 ((0:Int)=(a0n 9 s)∧false=(a1a 9 s)))∧(false=false →
 (a7x s))))))
theorem d2p(s:List UInt8):awp (a1c []) (a0m a5g) (c0p s) 0 (a1m (a1c []) a5g fun r=>a2e r [⟨(.int .i64),a0n 9 s⟩,⟨.bool,a1a 9 s⟩]) (a0q a5g [.val ⟨.str,s⟩]) =
 ((a0e ((s.length:Int)) →
 (((decide (((s.length:Int))<(1:Int)))=false →
 (a0e ((s.length:Int)) →
 (((decide ((9:Int)<((s.length:Int))))=false →
 (b7o s))∧((decide ((9:Int)<((s.length:Int))))=(!false) →
 ((true=true →
 ((0:Int)=(a0n 9 s)∧false=(a1a 9 s)))∧(true=false →
 (a7x s)))))))∧((decide (((s.length:Int))<(1:Int)))=(!false) →
 ((true=false →
 (b7o s))∧(true=(!false) →
 ((true=true →
 ((0:Int)=(a0n 9 s)∧false=(a1a 9 s)))∧(true=false →
 (a7x s))))))))):=by kernel_rfl
theorem d2m(hE:a0z []):Ctr.Good a3e:=by
 refine⟨a1g b8k rfl (by decide),?_⟩
 show ∀ (s:List UInt8),True→a1h a0k b3p [.val ⟨.str,s⟩] (·=[⟨(.int .i64),a0n 9 s⟩,⟨.bool,a1a 9 s⟩])
 intro s _
 refine a1k (wr:=[]) (cl:=[]) (ro:=[]) hE b8k c8a (c0p s) ?_
 rewrite [d2p s]
 have f1:a2q (s.take 0)=0:=by simp[a2q]
 refine fun a0=>⟨fun a1=>fun a2=>⟨fun a3=>⟨?_,⟨fun a4=>fun a5=>⟨fun a6=>⟨?_,?_⟩,fun a6=>⟨⟨0,⟨?_,⟨⟨rfl,⟨?_,⟨?_,trivial⟩⟩⟩,trivial⟩⟩⟩,fun k1=>fun a7=>fun a8=>⟨fun a9=>⟨?_,⟨fun a10=>⟨?_,⟨fun a11=>⟨?_,?_⟩,fun a11=>⟨?_,⟨?_,⟨?_,⟨?_,⟨?_,⟨?_,⟨k1+1,⟨?_,⟨?_,⟨⟨rfl,⟨?_,⟨?_,trivial⟩⟩⟩,trivial⟩⟩⟩⟩⟩⟩⟩⟩⟩⟩⟩⟩,fun a10=>⟨fun a11=>⟨?_,?_⟩,fun a11=>⟨?_,⟨?_,⟨?_,⟨?_,⟨?_,⟨?_,⟨k1+1,⟨?_,⟨?_,⟨⟨rfl,⟨?_,⟨?_,trivial⟩⟩⟩,trivial⟩⟩⟩⟩⟩⟩⟩⟩⟩⟩⟩⟩⟩,fun a9=>⟨?_,?_⟩⟩⟩⟩,fun a4=>⟨fun a5=>⟨?_,?_⟩,fun a5=>⟨⟨0,⟨?_,⟨⟨rfl,⟨?_,⟨?_,trivial⟩⟩⟩,trivial⟩⟩⟩,fun k1=>fun a6=>fun a7=>⟨fun a8=>⟨?_,⟨fun a9=>⟨?_,⟨fun a10=>⟨?_,?_⟩,fun a10=>⟨?_,⟨?_,⟨?_,⟨?_,⟨?_,⟨?_,⟨k1+1,⟨?_,⟨?_,⟨⟨rfl,⟨?_,⟨?_,trivial⟩⟩⟩,trivial⟩⟩⟩⟩⟩⟩⟩⟩⟩⟩⟩⟩,fun a9=>⟨fun a10=>⟨?_,?_⟩,fun a10=>⟨?_,⟨?_,⟨?_,⟨?_,⟨?_,⟨?_,⟨k1+1,⟨?_,⟨?_,⟨⟨rfl,⟨?_,⟨?_,trivial⟩⟩⟩,trivial⟩⟩⟩⟩⟩⟩⟩⟩⟩⟩⟩⟩⟩,fun a8=>⟨?_,?_⟩⟩⟩⟩⟩⟩,fun a3=>⟨fun a4=>⟨?_,?_⟩,fun a4=>⟨⟨0,⟨?_,⟨⟨rfl,⟨?_,⟨?_,trivial⟩⟩⟩,trivial⟩⟩⟩,fun k1=>fun a5=>fun a6=>⟨fun a7=>⟨?_,⟨fun a8=>⟨?_,⟨fun a9=>⟨?_,?_⟩,fun a9=>⟨?_,⟨?_,⟨?_,⟨?_,⟨?_,⟨?_,⟨k1+1,⟨?_,⟨?_,⟨⟨rfl,⟨?_,⟨?_,trivial⟩⟩⟩,trivial⟩⟩⟩⟩⟩⟩⟩⟩⟩⟩⟩⟩,fun a8=>⟨fun a9=>⟨?_,?_⟩,fun a9=>⟨?_,⟨?_,⟨?_,⟨?_,⟨?_,⟨?_,⟨k1+1,⟨?_,⟨?_,⟨⟨rfl,⟨?_,⟨?_,trivial⟩⟩⟩,trivial⟩⟩⟩⟩⟩⟩⟩⟩⟩⟩⟩⟩⟩,fun a7=>⟨?_,?_⟩⟩⟩⟩⟩,fun a1=>⟨fun a2=>⟨?_,⟨fun a3=>fun a4=>⟨fun a5=>⟨?_,?_⟩,fun a5=>⟨⟨0,⟨?_,⟨⟨rfl,⟨?_,⟨?_,trivial⟩⟩⟩,trivial⟩⟩⟩,fun k1=>fun a6=>fun a7=>⟨fun a8=>⟨?_,⟨fun a9=>⟨?_,⟨fun a10=>⟨?_,?_⟩,fun a10=>⟨?_,⟨?_,⟨?_,⟨?_,⟨?_,⟨?_,⟨k1+1,⟨?_,⟨?_,⟨⟨rfl,⟨?_,⟨?_,trivial⟩⟩⟩,trivial⟩⟩⟩⟩⟩⟩⟩⟩⟩⟩⟩⟩,fun a9=>⟨fun a10=>⟨?_,?_⟩,fun a10=>⟨?_,⟨?_,⟨?_,⟨?_,⟨?_,⟨?_,⟨k1+1,⟨?_,⟨?_,⟨⟨rfl,⟨?_,⟨?_,trivial⟩⟩⟩,trivial⟩⟩⟩⟩⟩⟩⟩⟩⟩⟩⟩⟩⟩,fun a8=>⟨?_,?_⟩⟩⟩⟩,fun a3=>⟨fun a4=>⟨?_,?_⟩,fun a4=>⟨⟨0,⟨?_,⟨⟨rfl,⟨?_,⟨?_,trivial⟩⟩⟩,trivial⟩⟩⟩,fun k1=>fun a5=>fun a6=>⟨fun a7=>⟨?_,⟨fun a8=>⟨?_,⟨fun a9=>⟨?_,?_⟩,fun a9=>⟨?_,⟨?_,⟨?_,⟨?_,⟨?_,⟨?_,⟨k1+1,⟨?_,⟨?_,⟨⟨rfl,⟨?_,⟨?_,trivial⟩⟩⟩,trivial⟩⟩⟩⟩⟩⟩⟩⟩⟩⟩⟩⟩,fun a8=>⟨fun a9=>⟨?_,?_⟩,fun a9=>⟨?_,⟨?_,⟨?_,⟨?_,⟨?_,⟨?_,⟨k1+1,⟨?_,⟨?_,⟨⟨rfl,⟨?_,⟨?_,trivial⟩⟩⟩,trivial⟩⟩⟩⟩⟩⟩⟩⟩⟩⟩⟩⟩⟩,fun a7=>⟨?_,?_⟩⟩⟩⟩⟩⟩,fun a2=>⟨fun a3=>⟨?_,?_⟩,fun a3=>⟨⟨0,⟨?_,⟨⟨rfl,⟨?_,⟨?_,trivial⟩⟩⟩,trivial⟩⟩⟩,fun k1=>fun a4=>fun a5=>⟨fun a6=>⟨?_,⟨fun a7=>⟨?_,⟨fun a8=>⟨?_,?_⟩,fun a8=>⟨?_,⟨?_,⟨?_,⟨?_,⟨?_,⟨?_,⟨k1+1,⟨?_,⟨?_,⟨⟨rfl,⟨?_,⟨?_,trivial⟩⟩⟩,trivial⟩⟩⟩⟩⟩⟩⟩⟩⟩⟩⟩⟩,fun a7=>⟨fun a8=>⟨?_,?_⟩,fun a8=>⟨?_,⟨?_,⟨?_,⟨?_,⟨?_,⟨?_,⟨k1+1,⟨?_,⟨?_,⟨⟨rfl,⟨?_,⟨?_,trivial⟩⟩⟩,trivial⟩⟩⟩⟩⟩⟩⟩⟩⟩⟩⟩⟩⟩,fun a6=>⟨?_,?_⟩⟩⟩⟩⟩⟩
 all_goals try and_intros
 all_goals first|rfl|trivial|omega|((try simp only[Bool.not_true,Bool.not_false,decide_eq_true_eq,decide_eq_false_iff_not,a0j,d8q,d2y,a0e,e6z,e6y] at *);first|omega|exact (d6k 9 s (by omega)).1.symm|exact (d6k 9 s (by omega)).2.symm|exact e1s 9 s (by omega) (by omega)|(have hq:b2g 9 s k1:=(by with_reducible assumption);have hl:=e6g 9 s k1 hq;first|omega|exact (d1r 9 s k1 hq (by omega) (by omega)).1.symm|exact (d1r 9 s k1 hq (by omega) (by omega)).2.symm|exact (b6r 9 s k1 hq (by omega) (by omega) (by omega)).1|exact (b6r 9 s k1 hq (by omega) (by omega) (by omega)).2.symm|(rw[(b6r 9 s k1 hq (by omega) (by omega) (by omega)).2];omega)|exact (d1s 9 s k1 hq (by omega)).1.symm|exact (d1s 9 s k1 hq (by omega)).2.symm))
theorem b5q:Ctr.Good a3e:=d2m trivial
end
end Go.Proofs.YtmdefiphdgcijaaDoor

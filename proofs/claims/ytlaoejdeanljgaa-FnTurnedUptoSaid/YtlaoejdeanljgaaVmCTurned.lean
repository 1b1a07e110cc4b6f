/- Fit, Site, CTurned. -/
import Derived.Test.YtlaoejdeanljgaaVmUse
import Derived.Test.YtlaoejdeanljgaaVmLib
import Derived.Test.YtlaoejdeanljgaaVmGen3B
import Derived.Test.YtlaoejdeanljgaaVmBld3
import Derived.Test.YtlaoejdeanljgaaVmSame
import Derived.Test.YtlaoejdeanljgaaVmTr2
import Derived.Test.YtlaoejdeanljgaaVmTr4
set_option linter.unusedVariables false
set_option linter.unusedSimpArgs false
set_option linter.unusedSectionVars false
set_option maxRecDepth 4000
set_option maxHeartbeats 4000000
namespace Go.Proofs.Ytlaoejdeanljgaa
noncomputable section
def ftC(code:List Int)(gg:a0l)(s:Sr):a0b:=cdE code gg.tests gg.actions s
def ftA(code:List Int)(gg:a0l)(s:Sr):Sr:=cdN code gg.tests gg.actions s
def ftR(code:List Int)(gg:a0l)(s:Sr):Gp:=pgG code gg.tests gg.actions 2 (ftA code gg s) 3
def ftT(code:List Int)(gg:a0l)(s:Sr):Gp:=pgG code gg.tests gg.actions 2 (ftR code gg s).s 3
def ftU(code:List Int)(gg:a0l)(s:Sr):Gp:=pgG code gg.tests gg.actions 2 (ftT code gg s).s 3
def ftP(code:List Int)(gg:a0l)(s:Sr):a0a:=(ftR code gg s).p
def ftQ(code:List Int)(gg:a0l)(s:Sr):a0a:=(ftT code gg s).p
def ftX(code:List Int)(gg:a0l)(s:Sr):a0a:=(ftU code gg s).p
def ftS(code:List Int)(gg:a0l)(s:Sr):Sr:=(ftU code gg s).s
def ftD(code:List Int)(gg:a0l)(s:Sr):a0b:=cdE code gg.tests gg.actions (ftS code gg s)
abbrev a3k(p q:a0a):a0a:=a0a.mk 5 0 zE [p,q]
abbrev mIf(c:a0b)(p q:a0a):a0a:=a0a.mk 6 0 c [p,q]
abbrev mWh(c:a0b)(p:a0a):a0a:=a0a.mk 7 0 c [p]
abbrev mSk:a0a:=a0a.mk 1 0 zE []
abbrev mAs(c:a0b):a0a:=a0a.mk 4 0 c []
def ftM(c d:a0b)(p q x:a0a)(o:Bool)(ru:Int):a0a :=
 if ru=1 then mWh c p else if ru=2 then mIf c (a3k p (mWh c p)) mSk else if ru=3 then mIf c p p else if ru=4 then mIf c p q else
 if ru=5 then a3k (a3k p q) x else if ru=6 then a3k p (a3k q x) else if ru=7 then (bif o then a3k mSk p else a3k p mSk) else
 if ru=8 then a3k (mIf c p q) x else if ru=9 then mIf c (a3k p x) (a3k q x) else if ru=10 then mWh c (a3k p (mWh d q)) else
 if ru=11 then mWh c (mWh c p) else if ru=12 then a3k (mAs c) p else if ru=13 then a3k (mWh c p) (mIf c q x) else mWh c (a3k (mAs c) p)
def ftE(code:List Int)(gg:a0l)(s:Sr)(ru:Int):a0a:=ftM (ftC code gg s) (ftD code gg s) (ftP code gg s) (ftQ code gg s) (ftX code gg s) (a2t code (ftS code gg s) 2) ru
def ftN(code:List Int)(gg:a0l)(s:Sr)(ru:Int):Sr:=if ru=7 then pkN code (ftS code gg s) 2 else if ru=10 then cdN code gg.tests gg.actions (ftS code gg s) else ftS code gg s
structure FtF(code:List Int)(gg:a0l)(s:Sr)(m:Int):Prop where
 a:a0s code (ftA code gg s) (m+20000)
 r:a0s code (ftR code gg s).s (m+20000)
 t:a0s code (ftT code gg s).s (m+20000)
 u:a0s code (ftS code gg s) (m+20000)
 lr : -4≤(ftR code gg s).left∧(ftR code gg s).left≤3
 lt : -4≤(ftT code gg s).left∧(ftT code gg s).left≤3
 lu : -4≤(ftU code gg s).left∧(ftU code gg s).left≤3
 zc:a0q (ftC code gg s)≤14
 zd:a0q (ftD code gg s)≤14
 zp:a0e (ftP code gg s)≤140
 zq:a0e (ftQ code gg s)≤140
 zx:a0e (ftX code gg s)≤140
 ic:isC gg (ftC code gg s)=true
 id:isC gg (ftD code gg s)=true
 tp:a1d gg (ftP code gg s)=true
 tq:a1d gg (ftQ code gg s)=true
 tx:a1d gg (ftX code gg s)=true
theorem g3a(code:List Int)(gg:a0l)(s:Sr)(m:Int)(hs:a1y gg=true)(h:a0s code s m):FtF code gg s m:=by
 have hg:=(a6e gg).1 hs
 have c1:=c5a code _ _ m s hg.1 hg.2 h
 have w2:wG 2=7:=rfl
 have r1:=c4t code _ _ hg.1 hg.2 2 (ftA code gg s) _ 3 c1.sr
 have r2:=c4t code _ _ hg.1 hg.2 2 (ftR code gg s).s _ 3 r1.sr
 have r3:=c4t code _ _ hg.1 hg.2 2 (ftT code gg s).s _ 3 r2.sr
 have c2:=c5a code _ _ _ (ftS code gg s) hg.1 hg.2 r3.sr
 have a0:=r1.l0;have a1:=r1.l1;have b0:=r2.l0;have b1:=r2.l1;have d0:=r3.l0;have d1:=r3.l1
 exact⟨c1.sr.mono (by omega),r1.sr.mono (by omega),r2.sr.mono (by omega),r3.sr.mono (by omega),⟨by show -4≤(pgG _ _ _ _ _ _).left;omega,a1⟩,⟨by show -4≤(pgG _ _ _ _ _ _).left;omega,b1⟩,⟨by show -4≤(pgG _ _ _ _ _ _).left;omega,d1⟩,c1.sz,c2.sz,
  Nat.le_trans r1.sz (by omega),Nat.le_trans r2.sz (by omega),Nat.le_trans r3.sz (by omega),c1.isC hs,c2.isC hs,c2k code gg hs 2 _ _ 3 c1.sr,c2k code gg hs 2 _ _ 3 r1.sr,c2k code gg hs 2 _ _ 3 r2.sr⟩
theorem g9k(code:List Int)(gg:a0l)(s:Sr)(m:Int)(ru:Int)(hs:a1y gg=true)(h:a0s code s m):a0s code (ftN code gg s ru) (m+20250):=by
 have hg:=(a6e gg).1 hs
 have F:=g3a code gg s m hs h
 unfold ftN
 split
 ·exact (F.u.next 2).mono (by omega)
 split
 ·exact (c5a code _ _ _ (ftS code gg s) hg.1 hg.2 F.u).sr.mono (by omega)
 ·exact F.u.mono (by omega)
section
variable {gg:a0l} {p q:a0a} {c:a0b}
theorem g7x(h:a1d gg p=true)(h2:a1d gg q=true):a1d gg (a3k p q)=true:=a8v gg _ _ _ _ rfl (by simp[a8u]) (by simp[a8t,a2s,a4o]) (by simp[h,h2])
theorem h1j(hc:isC gg c=true)(h:a1d gg p=true)(h2:a1d gg q=true):a1d gg (mIf c p q)=true:=a8v gg _ _ _ _ rfl (by simp[a8u]) (by simpa [a8t,a2s] using hc) (by simp[h,h2])
theorem g9u(hc:isC gg c=true)(h:a1d gg p=true):a1d gg (mWh c p)=true:=a8v gg _ _ _ _ rfl (by simp[a8u]) (by simpa [a8t,a2s] using hc) (by simp[h])
theorem h1k:a1d gg mSk=true:=a8v gg _ _ _ _ (by decide) (by simp[a8u]) (by simp[a8t,a2s,a4o]) (by simp)
theorem h1i(hc:isC gg c=true):a1d gg (mAs c)=true:=a8v gg _ _ _ _ (by decide) (by simp[a8u]) (by simpa [a8t,a2s] using hc) (by simp)
end
theorem g1w{P:a0a→Prop}(c d:a0b)(p q x:a0a)(o:Bool)(ru:Int)(h1:P (mWh c p))(h2:P (mIf c (a3k p (mWh c p)) mSk))(h3:P (mIf c p p))(h4:P (mIf c p q))(h5:P (a3k (a3k p q) x))(h6:P (a3k p (a3k q x)))(h8:P (a3k (mIf c p q) x))(h9:P (mIf c (a3k p x) (a3k q x)))(h10:P (mWh c (a3k p (mWh d q))))(h11:P (mWh c (mWh c p)))(h12:P (a3k (mAs c) p))(h13:P (a3k (mWh c p) (mIf c q x)))(h70:P (a3k mSk p))(h71:P (a3k p mSk))(h14:P (mWh c (a3k (mAs c) p))):P (ftM c d p q x o ru):=by
 unfold ftM
 by_cases e:ru=1
 ·rw[if_pos e];exact h1
 rw[if_neg e];clear e
 by_cases e:ru=2
 ·rw[if_pos e];exact h2
 rw[if_neg e];clear e
 by_cases e:ru=3
 ·rw[if_pos e];exact h3
 rw[if_neg e];clear e
 by_cases e:ru=4
 ·rw[if_pos e];exact h4
 rw[if_neg e];clear e
 by_cases e:ru=5
 ·rw[if_pos e];exact h5
 rw[if_neg e];clear e
 by_cases e:ru=6
 ·rw[if_pos e];exact h6
 rw[if_neg e];clear e
 by_cases e:ru=7
 ·rw[if_pos e];cases o
  ·exact h71
  ·exact h70
 rw[if_neg e];clear e
 by_cases e:ru=8
 ·rw[if_pos e];exact h8
 rw[if_neg e];clear e
 by_cases e:ru=9
 ·rw[if_pos e];exact h9
 rw[if_neg e];clear e
 by_cases e:ru=10
 ·rw[if_pos e];exact h10
 rw[if_neg e];clear e
 by_cases e:ru=11
 ·rw[if_pos e];exact h11
 rw[if_neg e];clear e
 by_cases e:ru=12
 ·rw[if_pos e];exact h12
 rw[if_neg e];clear e
 by_cases e:ru=13
 ·rw[if_pos e];exact h13
 rw[if_neg e];clear e
 exact h14
theorem g6j(code:List Int)(gg:a0l)(s:Sr)(m ru:Int)(hs:a1y gg=true)(h:a0s code s m):a1d gg (ftE code gg s ru)=true:=by
 have F:=g3a code gg s m hs h
 have p:=F.tp;have q:=F.tq;have x:=F.tx;have c:=F.ic;have d:=F.id
 refine g1w (P:=fun z=>a1d gg z=true) _ _ _ _ _ _ _ ?_ ?_ ?_ ?_ ?_ ?_ ?_ ?_ ?_ ?_ ?_ ?_ ?_ ?_ ?_<;>show a1d gg _=true<;>(repeat' first|with_reducible assumption|with_reducible apply g7x|with_reducible apply h1j|with_reducible apply g9u|with_reducible exact h1k|with_reducible apply h1i)
theorem g7z(p q:a0a):a0e (a3k p q)=2+a0e p+a0e q:=by simp[a3k,a0e,a3v,e4n];omega
theorem h1q(c:a0b)(p q:a0a):a0e (mIf c p q)=2+a0q c+a0e p+a0e q:=by simp[mIf,a0e,a3v];omega
theorem h1s(c:a0b)(p:a0a):a0e (mWh c p)=1+a0q c+a0e p:=by simp[mWh,a0e,a3v];omega
theorem h1r:a0e mSk=0:=by simp[mSk,a0e,a3v,e4n]
theorem h1p(c:a0b):a0e (mAs c)=a0q c:=by simp[mAs,a0e,a3v]
theorem g9j(c d:a0b)(p q x:a0a)(o:Bool)(ru:Int)(hc:a0q c≤14)(hd:a0q d≤14)(hp:a0e p≤140)(hq:a0e q≤140)(hx:a0e x≤140):a0e (ftM c d p q x o ru)≤2000:=by
 refine g1w (P:=fun z=>a0e z≤2000) _ _ _ _ _ _ _ ?_ ?_ ?_ ?_ ?_ ?_ ?_ ?_ ?_ ?_ ?_ ?_ ?_ ?_ ?_<;>simp only[g7z,h1q,h1s,h1r,h1p]<;>omega
theorem g9i(code:List Int)(gg:a0l)(s:Sr)(m ru:Int)(hs:a1y gg=true)(h:a0s code s m):a0e (ftE code gg s ru)≤2000:=by
 have F:=g3a code gg s m hs h
 exact g9j _ _ _ _ _ _ _ F.zc F.zd F.zp F.zq F.zx
section
variable (code:List Int) (gg:a0l) (s:Sr) (ru:Int)
theorem g6k(h:ru=1):mWh (ftC code gg s) (ftP code gg s)=ftE code gg s ru∧ftS code gg s=ftN code gg s ru:=by subst h;exact⟨rfl,rfl⟩
theorem g6l(h:ru=2):mIf (ftC code gg s) (a3k (ftP code gg s) (mWh (ftC code gg s) (ftP code gg s))) mSk=ftE code gg s ru∧ftS code gg s=ftN code gg s ru:=by subst h;exact⟨rfl,rfl⟩
theorem g6m(h:ru=3):mIf (ftC code gg s) (ftP code gg s) (ftP code gg s)=ftE code gg s ru∧ftS code gg s=ftN code gg s ru:=by subst h;exact⟨rfl,rfl⟩
theorem g6n(h:ru=4):mIf (ftC code gg s) (ftP code gg s) (ftQ code gg s)=ftE code gg s ru∧ftS code gg s=ftN code gg s ru:=by subst h;exact⟨rfl,rfl⟩
theorem g6o(h:ru=5):a3k (a3k (ftP code gg s) (ftQ code gg s)) (ftX code gg s)=ftE code gg s ru∧ftS code gg s=ftN code gg s ru:=by subst h;exact⟨rfl,rfl⟩
theorem g6p(h:ru=6):a3k (ftP code gg s) (a3k (ftQ code gg s) (ftX code gg s))=ftE code gg s ru∧ftS code gg s=ftN code gg s ru:=by subst h;exact⟨rfl,rfl⟩
theorem g6q(h:ru=8):a3k (mIf (ftC code gg s) (ftP code gg s) (ftQ code gg s)) (ftX code gg s)=ftE code gg s ru∧ftS code gg s=ftN code gg s ru:=by subst h;exact⟨rfl,rfl⟩
theorem g6r(h:ru=9):mIf (ftC code gg s) (a3k (ftP code gg s) (ftX code gg s)) (a3k (ftQ code gg s) (ftX code gg s))=ftE code gg s ru∧ftS code gg s=ftN code gg s ru:=by subst h;exact⟨rfl,rfl⟩
theorem g2t(h:ru=10):mWh (ftC code gg s) (a3k (ftP code gg s) (mWh (ftD code gg s) (ftQ code gg s)))=ftE code gg s ru∧cdN code gg.tests gg.actions (ftS code gg s)=ftN code gg s ru:=by subst h;exact⟨rfl,rfl⟩
theorem g2u(h:ru=11):mWh (ftC code gg s) (mWh (ftC code gg s) (ftP code gg s))=ftE code gg s ru∧ftS code gg s=ftN code gg s ru:=by subst h;exact⟨rfl,rfl⟩
theorem g2v(h:ru=12):a3k (mAs (ftC code gg s)) (ftP code gg s)=ftE code gg s ru∧ftS code gg s=ftN code gg s ru:=by subst h;exact⟨rfl,rfl⟩
theorem g2w(h:ru=13):a3k (mWh (ftC code gg s) (ftP code gg s)) (mIf (ftC code gg s) (ftQ code gg s) (ftX code gg s))=ftE code gg s ru∧ftS code gg s=ftN code gg s ru:=by subst h;exact⟨rfl,rfl⟩
theorem g2y(h:ru=7)(h2:a2t code (ftS code gg s) 2=true):a3k mSk (ftP code gg s)=ftE code gg s ru∧pkN code (ftS code gg s) 2=ftN code gg s ru:=by subst h;exact⟨by unfold ftE ftM;rw[h2];rfl,rfl⟩
theorem g2z(h:ru=7)(h2:a2t code (ftS code gg s) 2=false):a3k (ftP code gg s) mSk=ftE code gg s ru∧pkN code (ftS code gg s) 2=ftN code gg s ru:=by subst h;exact⟨by unfold ftE ftM;rw[h2];rfl,rfl⟩
theorem g2x(h1:¬ ru=1)(h2:¬ ru=2)(h3:¬ ru=3)(h4:¬ ru=4)(h5:¬ ru=5)(h6:¬ ru=6)(h7:¬ ru=7)(h8:¬ ru=8)(h9:¬ ru=9)(h10:¬ ru=10)(h11:¬ ru=11)(h12:¬ ru=12)(h13:¬ ru=13):mWh (ftC code gg s) (a3k (mAs (ftC code gg s)) (ftP code gg s))=ftE code gg s ru∧ftS code gg s=ftN code gg s ru:=by
 constructor
 ·unfold ftE ftM;rw[if_neg h1,if_neg h2,if_neg h3,if_neg h4,if_neg h5,if_neg h6,if_neg h7,if_neg h8,if_neg h9,if_neg h10,if_neg h11,if_neg h12,if_neg h13]
 ·unfold ftN;rw[if_neg h7,if_neg h10]
end
def a7x:SCt:=⟨c0c,[[.d (.slice (.int .u8)), .d (.int .i64), .d (.int .u64)]],[.b 0, .v (.st .sig), .v (.int .i64)],[[(.slice (.int .u8)),(.int .i64),(.int .u64)]],fun (gg:a0l) (ru:Int) (code:List Int) (pos:Int) (seed:Int)=>⟨(some (a0s code (Sr.mk pos seed) 860000000∧a1y gg=true),[⟨(.st .prog),ftE code gg (Sr.mk pos seed) ru⟩],[[⟨(.slice (.int .u8)),code⟩,⟨(.int .i64),(ftN code gg (Sr.mk pos seed) ru).pos⟩,⟨(.int .u64),(ftN code gg (Sr.mk pos seed) ru).seed⟩]])⟩⟩
def c6d(gg:a0l)(ru:Int)(code:List Int)(pos:Int)(seed:Int):Nat→a0t:=(fun zb=>if Nat.beq zb 100008 then .mk (Unit) (fun u=>True) (fun u=>0) [] [1,3,4,5,12,13,14,15,16,17,18,19,20,21,22,23,24,25,26,27,28,29] (fun u=>[(7, .ptr 15 0),(8, .ptr 8 0),(9, .ptr 9 0),(10, .ptr 10 0),(11, .ptr 11 0)]) [0,2,6,7,30,31,32,33,34,35,36,37,38,39,40,41,42,43,44,45,46,47,48,49,50,51,52,53,54,55,56,57,58,59,60,61,62,63,64,65,66,67,68,69,70,71,72,73,74,75,76,77,78,79,80,81,82,83,84,85,86,87,88,89,90,91,92,93,94,95,96,97,98,99,100,101,102,103,104,105,106,107,108,109,110,111,112,113,114,115,116,117,118,119,120,121,122,123,124,125,126,127,128,129,130,131,132,133,134,135,136,137,138] (fun u=>[(400000, .box [.imm ⟨(.slice (.int .u8)),(code:List Int)⟩, .imm ⟨(.int .i64),((ftS code gg (Sr.mk pos seed)).pos:Int)⟩, .imm ⟨(.int .u64),((ftS code gg (Sr.mk pos seed)).seed:Int)⟩]),(15, .box [.ptr 400000 0, .imm ⟨(.int .i64),(gg.tests:Int)⟩, .imm ⟨(.int .i64),(gg.actions:Int)⟩, .imm ⟨(.int .i64),((ftU code gg (Sr.mk pos seed)).left:Int)⟩]),(8, .box [.imm ⟨(.int .i64),((ftC code gg (Sr.mk pos seed)).kind:Int)⟩, .imm ⟨(.int .i64),((ftC code gg (Sr.mk pos seed)).num:Int)⟩, .tree 7000]),(7000, .tree (.st .expr) ((ftC code gg (Sr.mk pos seed)).kids:List a0b)),(9, .box [.imm ⟨(.int .i64),((ftP code gg (Sr.mk pos seed)).kind:Int)⟩, .imm ⟨(.int .i64),((ftP code gg (Sr.mk pos seed)).num:Int)⟩, .imm ⟨(.int .i64),((ftP code gg (Sr.mk pos seed)).cond.kind:Int)⟩, .imm ⟨(.int .i64),((ftP code gg (Sr.mk pos seed)).cond.num:Int)⟩, .tree 7100, .tree 7150]),(7100, .tree (.st .expr) ((ftP code gg (Sr.mk pos seed)).cond.kids:List a0b)),(7150, .tree (.st .prog) ((ftP code gg (Sr.mk pos seed)).kids:List a0a)),(10, .box [.imm ⟨(.int .i64),((ftQ code gg (Sr.mk pos seed)).kind:Int)⟩, .imm ⟨(.int .i64),((ftQ code gg (Sr.mk pos seed)).num:Int)⟩, .imm ⟨(.int .i64),((ftQ code gg (Sr.mk pos seed)).cond.kind:Int)⟩, .imm ⟨(.int .i64),((ftQ code gg (Sr.mk pos seed)).cond.num:Int)⟩, .tree 7200, .tree 7250]),(7200, .tree (.st .expr) ((ftQ code gg (Sr.mk pos seed)).cond.kids:List a0b)),(7250, .tree (.st .prog) ((ftQ code gg (Sr.mk pos seed)).kids:List a0a)),(11, .box [.imm ⟨(.int .i64),((ftX code gg (Sr.mk pos seed)).kind:Int)⟩, .imm ⟨(.int .i64),((ftX code gg (Sr.mk pos seed)).num:Int)⟩, .imm ⟨(.int .i64),((ftX code gg (Sr.mk pos seed)).cond.kind:Int)⟩, .imm ⟨(.int .i64),((ftX code gg (Sr.mk pos seed)).cond.num:Int)⟩, .tree 7300, .tree 7350]),(7300, .tree (.st .expr) ((ftX code gg (Sr.mk pos seed)).cond.kids:List a0b)),(7350, .tree (.st .prog) ((ftX code gg (Sr.mk pos seed)).kids:List a0a))]) [] [] (fun u=>fun _ => .none) else .none)
abbrev a2n(gg:a0l)(ru:Int)(code:List Int)(pos:Int)(seed:Int):Prop:=((code=code∧(((ftS code gg (Sr.mk pos seed)).pos)=((ftN code gg (Sr.mk pos seed) ru).pos)∧((ftS code gg (Sr.mk pos seed)).seed)=((ftN code gg (Sr.mk pos seed) ru).seed)))∧True)
abbrev a0y(gg:a0l)(code:List Int)(pos:Int)(seed:Int):Prop:=(((ftC code gg (Sr.mk pos seed)).kind)=((ftC code gg (Sr.mk pos seed)).kind)∧(((ftC code gg (Sr.mk pos seed)).num)=((ftC code gg (Sr.mk pos seed)).num)∧((7000:Nat)=7000∧True)))
abbrev a1k(gg:a0l)(code:List Int)(pos:Int)(seed:Int):Prop:=(((ftP code gg (Sr.mk pos seed)).kind)=((ftP code gg (Sr.mk pos seed)).kind)∧(((ftP code gg (Sr.mk pos seed)).num)=((ftP code gg (Sr.mk pos seed)).num)∧(((ftP code gg (Sr.mk pos seed)).cond.kind)=((ftP code gg (Sr.mk pos seed)).cond.kind)∧(((ftP code gg (Sr.mk pos seed)).cond.num)=((ftP code gg (Sr.mk pos seed)).cond.num)∧((7100:Nat)=7100∧((7150:Nat)=7150∧True))))))
abbrev a3g(gg:a0l)(code:List Int)(pos:Int)(seed:Int):Prop:=(((ftQ code gg (Sr.mk pos seed)).kind)=((ftQ code gg (Sr.mk pos seed)).kind)∧(((ftQ code gg (Sr.mk pos seed)).num)=((ftQ code gg (Sr.mk pos seed)).num)∧(((ftQ code gg (Sr.mk pos seed)).cond.kind)=((ftQ code gg (Sr.mk pos seed)).cond.kind)∧(((ftQ code gg (Sr.mk pos seed)).cond.num)=((ftQ code gg (Sr.mk pos seed)).cond.num)∧((7200:Nat)=7200∧((7250:Nat)=7250∧True))))))
abbrev a3b(gg:a0l)(code:List Int)(pos:Int)(seed:Int):Prop:=(((ftX code gg (Sr.mk pos seed)).kind)=((ftX code gg (Sr.mk pos seed)).kind)∧(((ftX code gg (Sr.mk pos seed)).num)=((ftX code gg (Sr.mk pos seed)).num)∧(((ftX code gg (Sr.mk pos seed)).cond.kind)=((ftX code gg (Sr.mk pos seed)).cond.kind)∧(((ftX code gg (Sr.mk pos seed)).cond.num)=((ftX code gg (Sr.mk pos seed)).cond.num)∧((7300:Nat)=7300∧((7350:Nat)=7350∧True))))))
abbrev c2u(gg:a0l)(ru:Int)(code:List Int)(pos:Int)(seed:Int):Prop:=((code=code∧(((pkN code (ftS code gg (Sr.mk pos seed)) (2:Int)).pos)=((ftN code gg (Sr.mk pos seed) ru).pos)∧((pkN code (ftS code gg (Sr.mk pos seed)) (2:Int)).seed)=((ftN code gg (Sr.mk pos seed) ru).seed)))∧True)
theorem e0t(gg:a0l)(ru:Int)(code:List Int)(pos:Int)(seed:Int):awp (a2o [] [a2v,a2g,a1l,a1x] [] [17,19,24,29,35,42,43,44,45,51,57,62,64,70,71,76,78,80,81,87,89,95,98,99,105,107,108,109,115,116,122,127,131,132,137,138] [] [] [4] [a2y,a4l,a1z]) (a0i a6s) (c6d gg ru code pos seed) 0 (a9b (a2o [] [a2v,a2g,a1l,a1x] [] [17,19,24,29,35,42,43,44,45,51,57,62,64,70,71,76,78,80,81,87,89,95,98,99,105,107,108,109,115,116,122,127,131,132,137,138] [] [] [4] [a2y,a4l,a1z]) a6s [[.d (.slice (.int .u8)), .d (.int .i64), .d (.int .u64)]] fun r ds=>a1e r [⟨(.st .prog),ftE code gg (Sr.mk pos seed) ru⟩]∧b2i ds [[⟨(.slice (.int .u8)),code⟩,⟨(.int .i64),(ftN code gg (Sr.mk pos seed) ru).pos⟩,⟨(.int .u64),(ftN code gg (Sr.mk pos seed) ru).seed⟩]]) (a2x a6s [.box 0, .val ⟨(.st .sig),gg⟩, .val ⟨(.int .i64),ru⟩] [[.d (.slice (.int .u8)), .d (.int .i64), .d (.int .u64)]] [[⟨(.slice (.int .u8)),code⟩,⟨(.int .i64),pos⟩,⟨(.int .u64),seed⟩]]) =
 (((a0s code (Sr.mk pos seed) 970000000∧(0≤gg.tests∧gg.tests≤3)∧(0≤gg.actions∧gg.actions≤4))∧((a0s code (cdN code gg.tests gg.actions (Sr.mk pos seed)) (900000000 - 300 * (wG (2:Int).toNat:Int))∧(0≤gg.tests∧gg.tests≤3)∧(0≤gg.actions∧gg.actions≤4)∧(2:Int)≤10 ∧ -1000000+(wG (2:Int).toNat:Int)≤(3:Int)∧(3:Int)≤1000000)∧((a0s code (Sr.mk ((pgG code gg.tests gg.actions (2:Int).toNat (cdN code gg.tests gg.actions (Sr.mk pos seed)) (3:Int)).s.pos) ((pgG code gg.tests gg.actions (2:Int).toNat (cdN code gg.tests gg.actions (Sr.mk pos seed)) (3:Int)).s.seed)) (900000000 - 300 * (wG (2:Int).toNat:Int))∧(0≤gg.tests∧gg.tests≤3)∧(0≤gg.actions∧gg.actions≤4)∧(2:Int)≤10 ∧ -1000000+(wG (2:Int).toNat:Int)≤(3:Int)∧(3:Int)≤1000000)∧(((a0s code (Sr.mk ((pgG code gg.tests gg.actions (2:Int).toNat (Sr.mk ((pgG code gg.tests gg.actions (2:Int).toNat (cdN code gg.tests gg.actions (Sr.mk pos seed)) (3:Int)).s.pos) ((pgG code gg.tests gg.actions (2:Int).toNat (cdN code gg.tests gg.actions (Sr.mk pos seed)) (3:Int)).s.seed)) (3:Int)).s.pos) ((pgG code gg.tests gg.actions (2:Int).toNat (Sr.mk ((pgG code gg.tests gg.actions (2:Int).toNat (cdN code gg.tests gg.actions (Sr.mk pos seed)) (3:Int)).s.pos) ((pgG code gg.tests gg.actions (2:Int).toNat (cdN code gg.tests gg.actions (Sr.mk pos seed)) (3:Int)).s.seed)) (3:Int)).s.seed)) (900000000 - 300 * (wG (2:Int).toNat:Int))∧(0≤gg.tests∧gg.tests≤3)∧(0≤gg.actions∧gg.actions≤4)∧(2:Int)≤10 ∧ -1000000+(wG (2:Int).toNat:Int)≤(3:Int)∧(3:Int)≤1000000)∧(∃ u1:Unit,(True∧((True∧(ru=ru∧(True∧(True∧(True∧(True∧(True∧(True∧True))))))))∧((code=code∧(((pgG code gg.tests gg.actions (2:Int).toNat (Sr.mk ((pgG code gg.tests gg.actions (2:Int).toNat (Sr.mk ((pgG code gg.tests gg.actions (2:Int).toNat (cdN code gg.tests gg.actions (Sr.mk pos seed)) (3:Int)).s.pos) ((pgG code gg.tests gg.actions (2:Int).toNat (cdN code gg.tests gg.actions (Sr.mk pos seed)) (3:Int)).s.seed)) (3:Int)).s.pos) ((pgG code gg.tests gg.actions (2:Int).toNat (Sr.mk ((pgG code gg.tests gg.actions (2:Int).toNat (cdN code gg.tests gg.actions (Sr.mk pos seed)) (3:Int)).s.pos) ((pgG code gg.tests gg.actions (2:Int).toNat (cdN code gg.tests gg.actions (Sr.mk pos seed)) (3:Int)).s.seed)) (3:Int)).s.seed)) (3:Int)).s.pos)=((ftS code gg (Sr.mk pos seed)).pos)∧(((pgG code gg.tests gg.actions (2:Int).toNat (Sr.mk ((pgG code gg.tests gg.actions (2:Int).toNat (Sr.mk ((pgG code gg.tests gg.actions (2:Int).toNat (cdN code gg.tests gg.actions (Sr.mk pos seed)) (3:Int)).s.pos) ((pgG code gg.tests gg.actions (2:Int).toNat (cdN code gg.tests gg.actions (Sr.mk pos seed)) (3:Int)).s.seed)) (3:Int)).s.pos) ((pgG code gg.tests gg.actions (2:Int).toNat (Sr.mk ((pgG code gg.tests gg.actions (2:Int).toNat (cdN code gg.tests gg.actions (Sr.mk pos seed)) (3:Int)).s.pos) ((pgG code gg.tests gg.actions (2:Int).toNat (cdN code gg.tests gg.actions (Sr.mk pos seed)) (3:Int)).s.seed)) (3:Int)).s.seed)) (3:Int)).s.seed)=((ftS code gg (Sr.mk pos seed)).seed)∧True)))∧((True∧(gg.tests=gg.tests∧(gg.actions=gg.actions∧(((pgG code gg.tests gg.actions (2:Int).toNat (Sr.mk ((pgG code gg.tests gg.actions (2:Int).toNat (Sr.mk ((pgG code gg.tests gg.actions (2:Int).toNat (cdN code gg.tests gg.actions (Sr.mk pos seed)) (3:Int)).s.pos) ((pgG code gg.tests gg.actions (2:Int).toNat (cdN code gg.tests gg.actions (Sr.mk pos seed)) (3:Int)).s.seed)) (3:Int)).s.pos) ((pgG code gg.tests gg.actions (2:Int).toNat (Sr.mk ((pgG code gg.tests gg.actions (2:Int).toNat (cdN code gg.tests gg.actions (Sr.mk pos seed)) (3:Int)).s.pos) ((pgG code gg.tests gg.actions (2:Int).toNat (cdN code gg.tests gg.actions (Sr.mk pos seed)) (3:Int)).s.seed)) (3:Int)).s.seed)) (3:Int)).left)=((ftU code gg (Sr.mk pos seed)).left)∧True))))∧(((cdE code gg.tests gg.actions (Sr.mk pos seed)).kind=((ftC code gg (Sr.mk pos seed)).kind)∧((cdE code gg.tests gg.actions (Sr.mk pos seed)).num=((ftC code gg (Sr.mk pos seed)).num)∧(True∧True)))∧((cdE code gg.tests gg.actions (Sr.mk pos seed)).kids=((ftC code gg (Sr.mk pos seed)).kids)∧((((pgG code gg.tests gg.actions (2:Int).toNat (cdN code gg.tests gg.actions (Sr.mk pos seed)) (3:Int)).p).kind=((ftP code gg (Sr.mk pos seed)).kind)∧(((pgG code gg.tests gg.actions (2:Int).toNat (cdN code gg.tests gg.actions (Sr.mk pos seed)) (3:Int)).p).num=((ftP code gg (Sr.mk pos seed)).num)∧(((pgG code gg.tests gg.actions (2:Int).toNat (cdN code gg.tests gg.actions (Sr.mk pos seed)) (3:Int)).p).cond.kind=((ftP code gg (Sr.mk pos seed)).cond.kind)∧(((pgG code gg.tests gg.actions (2:Int).toNat (cdN code gg.tests gg.actions (Sr.mk pos seed)) (3:Int)).p).cond.num=((ftP code gg (Sr.mk pos seed)).cond.num)∧(True∧(True∧True))))))∧(((pgG code gg.tests gg.actions (2:Int).toNat (cdN code gg.tests gg.actions (Sr.mk pos seed)) (3:Int)).p).cond.kids=((ftP code gg (Sr.mk pos seed)).cond.kids)∧(((pgG code gg.tests gg.actions (2:Int).toNat (cdN code gg.tests gg.actions (Sr.mk pos seed)) (3:Int)).p).kids=((ftP code gg (Sr.mk pos seed)).kids)∧((((pgG code gg.tests gg.actions (2:Int).toNat (Sr.mk ((pgG code gg.tests gg.actions (2:Int).toNat (cdN code gg.tests gg.actions (Sr.mk pos seed)) (3:Int)).s.pos) ((pgG code gg.tests gg.actions (2:Int).toNat (cdN code gg.tests gg.actions (Sr.mk pos seed)) (3:Int)).s.seed)) (3:Int)).p).kind=((ftQ code gg (Sr.mk pos seed)).kind)∧(((pgG code gg.tests gg.actions (2:Int).toNat (Sr.mk ((pgG code gg.tests gg.actions (2:Int).toNat (cdN code gg.tests gg.actions (Sr.mk pos seed)) (3:Int)).s.pos) ((pgG code gg.tests gg.actions (2:Int).toNat (cdN code gg.tests gg.actions (Sr.mk pos seed)) (3:Int)).s.seed)) (3:Int)).p).num=((ftQ code gg (Sr.mk pos seed)).num)∧(((pgG code gg.tests gg.actions (2:Int).toNat (Sr.mk ((pgG code gg.tests gg.actions (2:Int).toNat (cdN code gg.tests gg.actions (Sr.mk pos seed)) (3:Int)).s.pos) ((pgG code gg.tests gg.actions (2:Int).toNat (cdN code gg.tests gg.actions (Sr.mk pos seed)) (3:Int)).s.seed)) (3:Int)).p).cond.kind=((ftQ code gg (Sr.mk pos seed)).cond.kind)∧(((pgG code gg.tests gg.actions (2:Int).toNat (Sr.mk ((pgG code gg.tests gg.actions (2:Int).toNat (cdN code gg.tests gg.actions (Sr.mk pos seed)) (3:Int)).s.pos) ((pgG code gg.tests gg.actions (2:Int).toNat (cdN code gg.tests gg.actions (Sr.mk pos seed)) (3:Int)).s.seed)) (3:Int)).p).cond.num=((ftQ code gg (Sr.mk pos seed)).cond.num)∧(True∧(True∧True))))))∧(((pgG code gg.tests gg.actions (2:Int).toNat (Sr.mk ((pgG code gg.tests gg.actions (2:Int).toNat (cdN code gg.tests gg.actions (Sr.mk pos seed)) (3:Int)).s.pos) ((pgG code gg.tests gg.actions (2:Int).toNat (cdN code gg.tests gg.actions (Sr.mk pos seed)) (3:Int)).s.seed)) (3:Int)).p).cond.kids=((ftQ code gg (Sr.mk pos seed)).cond.kids)∧(((pgG code gg.tests gg.actions (2:Int).toNat (Sr.mk ((pgG code gg.tests gg.actions (2:Int).toNat (cdN code gg.tests gg.actions (Sr.mk pos seed)) (3:Int)).s.pos) ((pgG code gg.tests gg.actions (2:Int).toNat (cdN code gg.tests gg.actions (Sr.mk pos seed)) (3:Int)).s.seed)) (3:Int)).p).kids=((ftQ code gg (Sr.mk pos seed)).kids)∧((((pgG code gg.tests gg.actions (2:Int).toNat (Sr.mk ((pgG code gg.tests gg.actions (2:Int).toNat (Sr.mk ((pgG code gg.tests gg.actions (2:Int).toNat (cdN code gg.tests gg.actions (Sr.mk pos seed)) (3:Int)).s.pos) ((pgG code gg.tests gg.actions (2:Int).toNat (cdN code gg.tests gg.actions (Sr.mk pos seed)) (3:Int)).s.seed)) (3:Int)).s.pos) ((pgG code gg.tests gg.actions (2:Int).toNat (Sr.mk ((pgG code gg.tests gg.actions (2:Int).toNat (cdN code gg.tests gg.actions (Sr.mk pos seed)) (3:Int)).s.pos) ((pgG code gg.tests gg.actions (2:Int).toNat (cdN code gg.tests gg.actions (Sr.mk pos seed)) (3:Int)).s.seed)) (3:Int)).s.seed)) (3:Int)).p).kind=((ftX code gg (Sr.mk pos seed)).kind)∧(((pgG code gg.tests gg.actions (2:Int).toNat (Sr.mk ((pgG code gg.tests gg.actions (2:Int).toNat (Sr.mk ((pgG code gg.tests gg.actions (2:Int).toNat (cdN code gg.tests gg.actions (Sr.mk pos seed)) (3:Int)).s.pos) ((pgG code gg.tests gg.actions (2:Int).toNat (cdN code gg.tests gg.actions (Sr.mk pos seed)) (3:Int)).s.seed)) (3:Int)).s.pos) ((pgG code gg.tests gg.actions (2:Int).toNat (Sr.mk ((pgG code gg.tests gg.actions (2:Int).toNat (cdN code gg.tests gg.actions (Sr.mk pos seed)) (3:Int)).s.pos) ((pgG code gg.tests gg.actions (2:Int).toNat (cdN code gg.tests gg.actions (Sr.mk pos seed)) (3:Int)).s.seed)) (3:Int)).s.seed)) (3:Int)).p).num=((ftX code gg (Sr.mk pos seed)).num)∧(((pgG code gg.tests gg.actions (2:Int).toNat (Sr.mk ((pgG code gg.tests gg.actions (2:Int).toNat (Sr.mk ((pgG code gg.tests gg.actions (2:Int).toNat (cdN code gg.tests gg.actions (Sr.mk pos seed)) (3:Int)).s.pos) ((pgG code gg.tests gg.actions (2:Int).toNat (cdN code gg.tests gg.actions (Sr.mk pos seed)) (3:Int)).s.seed)) (3:Int)).s.pos) ((pgG code gg.tests gg.actions (2:Int).toNat (Sr.mk ((pgG code gg.tests gg.actions (2:Int).toNat (cdN code gg.tests gg.actions (Sr.mk pos seed)) (3:Int)).s.pos) ((pgG code gg.tests gg.actions (2:Int).toNat (cdN code gg.tests gg.actions (Sr.mk pos seed)) (3:Int)).s.seed)) (3:Int)).s.seed)) (3:Int)).p).cond.kind=((ftX code gg (Sr.mk pos seed)).cond.kind)∧(((pgG code gg.tests gg.actions (2:Int).toNat (Sr.mk ((pgG code gg.tests gg.actions (2:Int).toNat (Sr.mk ((pgG code gg.tests gg.actions (2:Int).toNat (cdN code gg.tests gg.actions (Sr.mk pos seed)) (3:Int)).s.pos) ((pgG code gg.tests gg.actions (2:Int).toNat (cdN code gg.tests gg.actions (Sr.mk pos seed)) (3:Int)).s.seed)) (3:Int)).s.pos) ((pgG code gg.tests gg.actions (2:Int).toNat (Sr.mk ((pgG code gg.tests gg.actions (2:Int).toNat (cdN code gg.tests gg.actions (Sr.mk pos seed)) (3:Int)).s.pos) ((pgG code gg.tests gg.actions (2:Int).toNat (cdN code gg.tests gg.actions (Sr.mk pos seed)) (3:Int)).s.seed)) (3:Int)).s.seed)) (3:Int)).p).cond.num=((ftX code gg (Sr.mk pos seed)).cond.num)∧(True∧(True∧True))))))∧(((pgG code gg.tests gg.actions (2:Int).toNat (Sr.mk ((pgG code gg.tests gg.actions (2:Int).toNat (Sr.mk ((pgG code gg.tests gg.actions (2:Int).toNat (cdN code gg.tests gg.actions (Sr.mk pos seed)) (3:Int)).s.pos) ((pgG code gg.tests gg.actions (2:Int).toNat (cdN code gg.tests gg.actions (Sr.mk pos seed)) (3:Int)).s.seed)) (3:Int)).s.pos) ((pgG code gg.tests gg.actions (2:Int).toNat (Sr.mk ((pgG code gg.tests gg.actions (2:Int).toNat (cdN code gg.tests gg.actions (Sr.mk pos seed)) (3:Int)).s.pos) ((pgG code gg.tests gg.actions (2:Int).toNat (cdN code gg.tests gg.actions (Sr.mk pos seed)) (3:Int)).s.seed)) (3:Int)).s.seed)) (3:Int)).p).cond.kids=((ftX code gg (Sr.mk pos seed)).cond.kids)∧(((pgG code gg.tests gg.actions (2:Int).toNat (Sr.mk ((pgG code gg.tests gg.actions (2:Int).toNat (Sr.mk ((pgG code gg.tests gg.actions (2:Int).toNat (cdN code gg.tests gg.actions (Sr.mk pos seed)) (3:Int)).s.pos) ((pgG code gg.tests gg.actions (2:Int).toNat (cdN code gg.tests gg.actions (Sr.mk pos seed)) (3:Int)).s.seed)) (3:Int)).s.pos) ((pgG code gg.tests gg.actions (2:Int).toNat (Sr.mk ((pgG code gg.tests gg.actions (2:Int).toNat (cdN code gg.tests gg.actions (Sr.mk pos seed)) (3:Int)).s.pos) ((pgG code gg.tests gg.actions (2:Int).toNat (cdN code gg.tests gg.actions (Sr.mk pos seed)) (3:Int)).s.seed)) (3:Int)).s.seed)) (3:Int)).p).kids=((ftX code gg (Sr.mk pos seed)).kids)∧(((0:Int)=(0:Int)∧((0:Int)=(0:Int)∧((0:Int)=(0:Int)∧((0:Int)=(0:Int)∧(True∧(True∧True))))))∧True))))))))))))))))))∧(∀ u1:Unit,(True →
 (((decide (ru=(1:Int)))=true →
 ((a0q (a0b.mk ((ftC code gg (Sr.mk pos seed)).kind) ((ftC code gg (Sr.mk pos seed)).num) ((ftC code gg (Sr.mk pos seed)).kids))≤1048576∧a0e (a0a.mk ((ftP code gg (Sr.mk pos seed)).kind) ((ftP code gg (Sr.mk pos seed)).num) (a0b.mk ((ftP code gg (Sr.mk pos seed)).cond.kind) ((ftP code gg (Sr.mk pos seed)).cond.num) ((ftP code gg (Sr.mk pos seed)).cond.kids)) ((ftP code gg (Sr.mk pos seed)).kids))≤1048576)∧((a0g (a0a.mk 7 0 (a0b.mk ((ftC code gg (Sr.mk pos seed)).kind) ((ftC code gg (Sr.mk pos seed)).num) ((ftC code gg (Sr.mk pos seed)).kids)) [(a0a.mk ((ftP code gg (Sr.mk pos seed)).kind) ((ftP code gg (Sr.mk pos seed)).num) (a0b.mk ((ftP code gg (Sr.mk pos seed)).cond.kind) ((ftP code gg (Sr.mk pos seed)).cond.num) ((ftP code gg (Sr.mk pos seed)).cond.kids)) ((ftP code gg (Sr.mk pos seed)).kids))]))=(ftE code gg (Sr.mk pos seed) ru)∧(a2n gg ru code pos seed))))∧((decide (ru=(1:Int)))=false →
 (((decide (ru=(2:Int)))=true →
 ((a0y gg code pos seed)∧((a1k gg code pos seed)∧((a0y gg code pos seed)∧((a1k gg code pos seed)∧((a0q (a0b.mk ((ftC code gg (Sr.mk pos seed)).kind) ((ftC code gg (Sr.mk pos seed)).num) ((ftC code gg (Sr.mk pos seed)).kids))≤1048576∧a0e (a0a.mk ((ftP code gg (Sr.mk pos seed)).kind) ((ftP code gg (Sr.mk pos seed)).num) (a0b.mk ((ftP code gg (Sr.mk pos seed)).cond.kind) ((ftP code gg (Sr.mk pos seed)).cond.num) ((ftP code gg (Sr.mk pos seed)).cond.kids)) ((ftP code gg (Sr.mk pos seed)).kids))≤1048576)∧((a0y gg code pos seed)∧((a1k gg code pos seed)∧((a0e (a0a.mk ((ftP code gg (Sr.mk pos seed)).kind) ((ftP code gg (Sr.mk pos seed)).num) (a0b.mk ((ftP code gg (Sr.mk pos seed)).cond.kind) ((ftP code gg (Sr.mk pos seed)).cond.num) ((ftP code gg (Sr.mk pos seed)).cond.kids)) ((ftP code gg (Sr.mk pos seed)).kids))≤1048576∧a0e (a0g (a0a.mk 7 0 (a0b.mk ((ftC code gg (Sr.mk pos seed)).kind) ((ftC code gg (Sr.mk pos seed)).num) ((ftC code gg (Sr.mk pos seed)).kids)) [(a0a.mk ((ftP code gg (Sr.mk pos seed)).kind) ((ftP code gg (Sr.mk pos seed)).num) (a0b.mk ((ftP code gg (Sr.mk pos seed)).cond.kind) ((ftP code gg (Sr.mk pos seed)).cond.num) ((ftP code gg (Sr.mk pos seed)).cond.kids)) ((ftP code gg (Sr.mk pos seed)).kids))]))≤1048576)∧((a0y gg code pos seed)∧((a0y gg code pos seed)∧((a0q (a0b.mk ((ftC code gg (Sr.mk pos seed)).kind) ((ftC code gg (Sr.mk pos seed)).num) ((ftC code gg (Sr.mk pos seed)).kids))≤1048576∧a0e (a0g (a0a.mk 5 0 zE [(a0a.mk ((ftP code gg (Sr.mk pos seed)).kind) ((ftP code gg (Sr.mk pos seed)).num) (a0b.mk ((ftP code gg (Sr.mk pos seed)).cond.kind) ((ftP code gg (Sr.mk pos seed)).cond.num) ((ftP code gg (Sr.mk pos seed)).cond.kids)) ((ftP code gg (Sr.mk pos seed)).kids)),(a0g (a0a.mk 7 0 (a0b.mk ((ftC code gg (Sr.mk pos seed)).kind) ((ftC code gg (Sr.mk pos seed)).num) ((ftC code gg (Sr.mk pos seed)).kids)) [(a0a.mk ((ftP code gg (Sr.mk pos seed)).kind) ((ftP code gg (Sr.mk pos seed)).num) (a0b.mk ((ftP code gg (Sr.mk pos seed)).cond.kind) ((ftP code gg (Sr.mk pos seed)).cond.num) ((ftP code gg (Sr.mk pos seed)).cond.kids)) ((ftP code gg (Sr.mk pos seed)).kids))]))]))≤1048576∧a0e (a0g (a0a.mk 1 0 zE []))≤1048576)∧((a0g (a0a.mk 6 0 (a0b.mk ((ftC code gg (Sr.mk pos seed)).kind) ((ftC code gg (Sr.mk pos seed)).num) ((ftC code gg (Sr.mk pos seed)).kids)) [(a0g (a0a.mk 5 0 zE [(a0a.mk ((ftP code gg (Sr.mk pos seed)).kind) ((ftP code gg (Sr.mk pos seed)).num) (a0b.mk ((ftP code gg (Sr.mk pos seed)).cond.kind) ((ftP code gg (Sr.mk pos seed)).cond.num) ((ftP code gg (Sr.mk pos seed)).cond.kids)) ((ftP code gg (Sr.mk pos seed)).kids)),(a0g (a0a.mk 7 0 (a0b.mk ((ftC code gg (Sr.mk pos seed)).kind) ((ftC code gg (Sr.mk pos seed)).num) ((ftC code gg (Sr.mk pos seed)).kids)) [(a0a.mk ((ftP code gg (Sr.mk pos seed)).kind) ((ftP code gg (Sr.mk pos seed)).num) (a0b.mk ((ftP code gg (Sr.mk pos seed)).cond.kind) ((ftP code gg (Sr.mk pos seed)).cond.num) ((ftP code gg (Sr.mk pos seed)).cond.kids)) ((ftP code gg (Sr.mk pos seed)).kids))]))])),(a0g (a0a.mk 1 0 zE []))]))=(ftE code gg (Sr.mk pos seed) ru)∧(a2n gg ru code pos seed))))))))))))))∧((decide (ru=(2:Int)))=false →
 (((decide (ru=(3:Int)))=true →
 ((a0q (a0b.mk ((ftC code gg (Sr.mk pos seed)).kind) ((ftC code gg (Sr.mk pos seed)).num) ((ftC code gg (Sr.mk pos seed)).kids))≤1048576∧a0e (a0a.mk ((ftP code gg (Sr.mk pos seed)).kind) ((ftP code gg (Sr.mk pos seed)).num) (a0b.mk ((ftP code gg (Sr.mk pos seed)).cond.kind) ((ftP code gg (Sr.mk pos seed)).cond.num) ((ftP code gg (Sr.mk pos seed)).cond.kids)) ((ftP code gg (Sr.mk pos seed)).kids))≤1048576∧a0e (a0a.mk ((ftP code gg (Sr.mk pos seed)).kind) ((ftP code gg (Sr.mk pos seed)).num) (a0b.mk ((ftP code gg (Sr.mk pos seed)).cond.kind) ((ftP code gg (Sr.mk pos seed)).cond.num) ((ftP code gg (Sr.mk pos seed)).cond.kids)) ((ftP code gg (Sr.mk pos seed)).kids))≤1048576)∧((a0g (a0a.mk 6 0 (a0b.mk ((ftC code gg (Sr.mk pos seed)).kind) ((ftC code gg (Sr.mk pos seed)).num) ((ftC code gg (Sr.mk pos seed)).kids)) [(a0a.mk ((ftP code gg (Sr.mk pos seed)).kind) ((ftP code gg (Sr.mk pos seed)).num) (a0b.mk ((ftP code gg (Sr.mk pos seed)).cond.kind) ((ftP code gg (Sr.mk pos seed)).cond.num) ((ftP code gg (Sr.mk pos seed)).cond.kids)) ((ftP code gg (Sr.mk pos seed)).kids)),(a0a.mk ((ftP code gg (Sr.mk pos seed)).kind) ((ftP code gg (Sr.mk pos seed)).num) (a0b.mk ((ftP code gg (Sr.mk pos seed)).cond.kind) ((ftP code gg (Sr.mk pos seed)).cond.num) ((ftP code gg (Sr.mk pos seed)).cond.kids)) ((ftP code gg (Sr.mk pos seed)).kids))]))=(ftE code gg (Sr.mk pos seed) ru)∧(a2n gg ru code pos seed))))∧((decide (ru=(3:Int)))=false →
 (((decide (ru=(4:Int)))=true →
 ((a0q (a0b.mk ((ftC code gg (Sr.mk pos seed)).kind) ((ftC code gg (Sr.mk pos seed)).num) ((ftC code gg (Sr.mk pos seed)).kids))≤1048576∧a0e (a0a.mk ((ftP code gg (Sr.mk pos seed)).kind) ((ftP code gg (Sr.mk pos seed)).num) (a0b.mk ((ftP code gg (Sr.mk pos seed)).cond.kind) ((ftP code gg (Sr.mk pos seed)).cond.num) ((ftP code gg (Sr.mk pos seed)).cond.kids)) ((ftP code gg (Sr.mk pos seed)).kids))≤1048576∧a0e (a0a.mk ((ftQ code gg (Sr.mk pos seed)).kind) ((ftQ code gg (Sr.mk pos seed)).num) (a0b.mk ((ftQ code gg (Sr.mk pos seed)).cond.kind) ((ftQ code gg (Sr.mk pos seed)).cond.num) ((ftQ code gg (Sr.mk pos seed)).cond.kids)) ((ftQ code gg (Sr.mk pos seed)).kids))≤1048576)∧((a0g (a0a.mk 6 0 (a0b.mk ((ftC code gg (Sr.mk pos seed)).kind) ((ftC code gg (Sr.mk pos seed)).num) ((ftC code gg (Sr.mk pos seed)).kids)) [(a0a.mk ((ftP code gg (Sr.mk pos seed)).kind) ((ftP code gg (Sr.mk pos seed)).num) (a0b.mk ((ftP code gg (Sr.mk pos seed)).cond.kind) ((ftP code gg (Sr.mk pos seed)).cond.num) ((ftP code gg (Sr.mk pos seed)).cond.kids)) ((ftP code gg (Sr.mk pos seed)).kids)),(a0a.mk ((ftQ code gg (Sr.mk pos seed)).kind) ((ftQ code gg (Sr.mk pos seed)).num) (a0b.mk ((ftQ code gg (Sr.mk pos seed)).cond.kind) ((ftQ code gg (Sr.mk pos seed)).cond.num) ((ftQ code gg (Sr.mk pos seed)).cond.kids)) ((ftQ code gg (Sr.mk pos seed)).kids))]))=(ftE code gg (Sr.mk pos seed) ru)∧(a2n gg ru code pos seed))))∧((decide (ru=(4:Int)))=false →
 (((decide (ru=(5:Int)))=true →
 ((a1k gg code pos seed)∧((a3g gg code pos seed)∧((a3b gg code pos seed)∧((a0e (a0a.mk ((ftP code gg (Sr.mk pos seed)).kind) ((ftP code gg (Sr.mk pos seed)).num) (a0b.mk ((ftP code gg (Sr.mk pos seed)).cond.kind) ((ftP code gg (Sr.mk pos seed)).cond.num) ((ftP code gg (Sr.mk pos seed)).cond.kids)) ((ftP code gg (Sr.mk pos seed)).kids))≤1048576∧a0e (a0a.mk ((ftQ code gg (Sr.mk pos seed)).kind) ((ftQ code gg (Sr.mk pos seed)).num) (a0b.mk ((ftQ code gg (Sr.mk pos seed)).cond.kind) ((ftQ code gg (Sr.mk pos seed)).cond.num) ((ftQ code gg (Sr.mk pos seed)).cond.kids)) ((ftQ code gg (Sr.mk pos seed)).kids))≤1048576)∧((a3b gg code pos seed)∧((a0e (a0g (a0a.mk 5 0 zE [(a0a.mk ((ftP code gg (Sr.mk pos seed)).kind) ((ftP code gg (Sr.mk pos seed)).num) (a0b.mk ((ftP code gg (Sr.mk pos seed)).cond.kind) ((ftP code gg (Sr.mk pos seed)).cond.num) ((ftP code gg (Sr.mk pos seed)).cond.kids)) ((ftP code gg (Sr.mk pos seed)).kids)),(a0a.mk ((ftQ code gg (Sr.mk pos seed)).kind) ((ftQ code gg (Sr.mk pos seed)).num) (a0b.mk ((ftQ code gg (Sr.mk pos seed)).cond.kind) ((ftQ code gg (Sr.mk pos seed)).cond.num) ((ftQ code gg (Sr.mk pos seed)).cond.kids)) ((ftQ code gg (Sr.mk pos seed)).kids))]))≤1048576∧a0e (a0a.mk ((ftX code gg (Sr.mk pos seed)).kind) ((ftX code gg (Sr.mk pos seed)).num) (a0b.mk ((ftX code gg (Sr.mk pos seed)).cond.kind) ((ftX code gg (Sr.mk pos seed)).cond.num) ((ftX code gg (Sr.mk pos seed)).cond.kids)) ((ftX code gg (Sr.mk pos seed)).kids))≤1048576)∧((a0g (a0a.mk 5 0 zE [(a0g (a0a.mk 5 0 zE [(a0a.mk ((ftP code gg (Sr.mk pos seed)).kind) ((ftP code gg (Sr.mk pos seed)).num) (a0b.mk ((ftP code gg (Sr.mk pos seed)).cond.kind) ((ftP code gg (Sr.mk pos seed)).cond.num) ((ftP code gg (Sr.mk pos seed)).cond.kids)) ((ftP code gg (Sr.mk pos seed)).kids)),(a0a.mk ((ftQ code gg (Sr.mk pos seed)).kind) ((ftQ code gg (Sr.mk pos seed)).num) (a0b.mk ((ftQ code gg (Sr.mk pos seed)).cond.kind) ((ftQ code gg (Sr.mk pos seed)).cond.num) ((ftQ code gg (Sr.mk pos seed)).cond.kids)) ((ftQ code gg (Sr.mk pos seed)).kids))])),(a0a.mk ((ftX code gg (Sr.mk pos seed)).kind) ((ftX code gg (Sr.mk pos seed)).num) (a0b.mk ((ftX code gg (Sr.mk pos seed)).cond.kind) ((ftX code gg (Sr.mk pos seed)).cond.num) ((ftX code gg (Sr.mk pos seed)).cond.kids)) ((ftX code gg (Sr.mk pos seed)).kids))]))=(ftE code gg (Sr.mk pos seed) ru)∧(a2n gg ru code pos seed)))))))))∧((decide (ru=(5:Int)))=false →
 (((decide (ru=(6:Int)))=true →
 ((a1k gg code pos seed)∧((a3g gg code pos seed)∧((a3b gg code pos seed)∧((a0e (a0a.mk ((ftQ code gg (Sr.mk pos seed)).kind) ((ftQ code gg (Sr.mk pos seed)).num) (a0b.mk ((ftQ code gg (Sr.mk pos seed)).cond.kind) ((ftQ code gg (Sr.mk pos seed)).cond.num) ((ftQ code gg (Sr.mk pos seed)).cond.kids)) ((ftQ code gg (Sr.mk pos seed)).kids))≤1048576∧a0e (a0a.mk ((ftX code gg (Sr.mk pos seed)).kind) ((ftX code gg (Sr.mk pos seed)).num) (a0b.mk ((ftX code gg (Sr.mk pos seed)).cond.kind) ((ftX code gg (Sr.mk pos seed)).cond.num) ((ftX code gg (Sr.mk pos seed)).cond.kids)) ((ftX code gg (Sr.mk pos seed)).kids))≤1048576)∧((a1k gg code pos seed)∧((a0e (a0a.mk ((ftP code gg (Sr.mk pos seed)).kind) ((ftP code gg (Sr.mk pos seed)).num) (a0b.mk ((ftP code gg (Sr.mk pos seed)).cond.kind) ((ftP code gg (Sr.mk pos seed)).cond.num) ((ftP code gg (Sr.mk pos seed)).cond.kids)) ((ftP code gg (Sr.mk pos seed)).kids))≤1048576∧a0e (a0g (a0a.mk 5 0 zE [(a0a.mk ((ftQ code gg (Sr.mk pos seed)).kind) ((ftQ code gg (Sr.mk pos seed)).num) (a0b.mk ((ftQ code gg (Sr.mk pos seed)).cond.kind) ((ftQ code gg (Sr.mk pos seed)).cond.num) ((ftQ code gg (Sr.mk pos seed)).cond.kids)) ((ftQ code gg (Sr.mk pos seed)).kids)),(a0a.mk ((ftX code gg (Sr.mk pos seed)).kind) ((ftX code gg (Sr.mk pos seed)).num) (a0b.mk ((ftX code gg (Sr.mk pos seed)).cond.kind) ((ftX code gg (Sr.mk pos seed)).cond.num) ((ftX code gg (Sr.mk pos seed)).cond.kids)) ((ftX code gg (Sr.mk pos seed)).kids))]))≤1048576)∧((a0g (a0a.mk 5 0 zE [(a0a.mk ((ftP code gg (Sr.mk pos seed)).kind) ((ftP code gg (Sr.mk pos seed)).num) (a0b.mk ((ftP code gg (Sr.mk pos seed)).cond.kind) ((ftP code gg (Sr.mk pos seed)).cond.num) ((ftP code gg (Sr.mk pos seed)).cond.kids)) ((ftP code gg (Sr.mk pos seed)).kids)),(a0g (a0a.mk 5 0 zE [(a0a.mk ((ftQ code gg (Sr.mk pos seed)).kind) ((ftQ code gg (Sr.mk pos seed)).num) (a0b.mk ((ftQ code gg (Sr.mk pos seed)).cond.kind) ((ftQ code gg (Sr.mk pos seed)).cond.num) ((ftQ code gg (Sr.mk pos seed)).cond.kids)) ((ftQ code gg (Sr.mk pos seed)).kids)),(a0a.mk ((ftX code gg (Sr.mk pos seed)).kind) ((ftX code gg (Sr.mk pos seed)).num) (a0b.mk ((ftX code gg (Sr.mk pos seed)).cond.kind) ((ftX code gg (Sr.mk pos seed)).cond.num) ((ftX code gg (Sr.mk pos seed)).cond.kids)) ((ftX code gg (Sr.mk pos seed)).kids))]))]))=(ftE code gg (Sr.mk pos seed) ru)∧(a2n gg ru code pos seed)))))))))∧((decide (ru=(6:Int)))=false →
 (((decide (ru=(7:Int)))=true →
 ((a0s code (ftS code gg (Sr.mk pos seed)) 999999000∧(2:Int)≤1000000)∧(((a2t code (ftS code gg (Sr.mk pos seed)) (2:Int))=true →
 ((a1k gg code pos seed)∧((a1k gg code pos seed)∧((a0e (a0g (a0a.mk 1 0 zE []))≤1048576∧a0e (a0a.mk ((ftP code gg (Sr.mk pos seed)).kind) ((ftP code gg (Sr.mk pos seed)).num) (a0b.mk ((ftP code gg (Sr.mk pos seed)).cond.kind) ((ftP code gg (Sr.mk pos seed)).cond.num) ((ftP code gg (Sr.mk pos seed)).cond.kids)) ((ftP code gg (Sr.mk pos seed)).kids))≤1048576)∧((a0g (a0a.mk 5 0 zE [(a0g (a0a.mk 1 0 zE [])),(a0a.mk ((ftP code gg (Sr.mk pos seed)).kind) ((ftP code gg (Sr.mk pos seed)).num) (a0b.mk ((ftP code gg (Sr.mk pos seed)).cond.kind) ((ftP code gg (Sr.mk pos seed)).cond.num) ((ftP code gg (Sr.mk pos seed)).cond.kids)) ((ftP code gg (Sr.mk pos seed)).kids))]))=(ftE code gg (Sr.mk pos seed) ru)∧(c2u gg ru code pos seed))))))∧((a2t code (ftS code gg (Sr.mk pos seed)) (2:Int))=false →
 ((a1k gg code pos seed)∧((a1k gg code pos seed)∧((a0e (a0a.mk ((ftP code gg (Sr.mk pos seed)).kind) ((ftP code gg (Sr.mk pos seed)).num) (a0b.mk ((ftP code gg (Sr.mk pos seed)).cond.kind) ((ftP code gg (Sr.mk pos seed)).cond.num) ((ftP code gg (Sr.mk pos seed)).cond.kids)) ((ftP code gg (Sr.mk pos seed)).kids))≤1048576∧a0e (a0g (a0a.mk 1 0 zE []))≤1048576)∧((a0g (a0a.mk 5 0 zE [(a0a.mk ((ftP code gg (Sr.mk pos seed)).kind) ((ftP code gg (Sr.mk pos seed)).num) (a0b.mk ((ftP code gg (Sr.mk pos seed)).cond.kind) ((ftP code gg (Sr.mk pos seed)).cond.num) ((ftP code gg (Sr.mk pos seed)).cond.kids)) ((ftP code gg (Sr.mk pos seed)).kids)),(a0g (a0a.mk 1 0 zE []))]))=(ftE code gg (Sr.mk pos seed) ru)∧(c2u gg ru code pos seed)))))))))∧((decide (ru=(7:Int)))=false →
 (((decide (ru=(8:Int)))=true →
 ((a0y gg code pos seed)∧((a1k gg code pos seed)∧((a3g gg code pos seed)∧((a3b gg code pos seed)∧((a0q (a0b.mk ((ftC code gg (Sr.mk pos seed)).kind) ((ftC code gg (Sr.mk pos seed)).num) ((ftC code gg (Sr.mk pos seed)).kids))≤1048576∧a0e (a0a.mk ((ftP code gg (Sr.mk pos seed)).kind) ((ftP code gg (Sr.mk pos seed)).num) (a0b.mk ((ftP code gg (Sr.mk pos seed)).cond.kind) ((ftP code gg (Sr.mk pos seed)).cond.num) ((ftP code gg (Sr.mk pos seed)).cond.kids)) ((ftP code gg (Sr.mk pos seed)).kids))≤1048576∧a0e (a0a.mk ((ftQ code gg (Sr.mk pos seed)).kind) ((ftQ code gg (Sr.mk pos seed)).num) (a0b.mk ((ftQ code gg (Sr.mk pos seed)).cond.kind) ((ftQ code gg (Sr.mk pos seed)).cond.num) ((ftQ code gg (Sr.mk pos seed)).cond.kids)) ((ftQ code gg (Sr.mk pos seed)).kids))≤1048576)∧((a3b gg code pos seed)∧((a0e (a0g (a0a.mk 6 0 (a0b.mk ((ftC code gg (Sr.mk pos seed)).kind) ((ftC code gg (Sr.mk pos seed)).num) ((ftC code gg (Sr.mk pos seed)).kids)) [(a0a.mk ((ftP code gg (Sr.mk pos seed)).kind) ((ftP code gg (Sr.mk pos seed)).num) (a0b.mk ((ftP code gg (Sr.mk pos seed)).cond.kind) ((ftP code gg (Sr.mk pos seed)).cond.num) ((ftP code gg (Sr.mk pos seed)).cond.kids)) ((ftP code gg (Sr.mk pos seed)).kids)),(a0a.mk ((ftQ code gg (Sr.mk pos seed)).kind) ((ftQ code gg (Sr.mk pos seed)).num) (a0b.mk ((ftQ code gg (Sr.mk pos seed)).cond.kind) ((ftQ code gg (Sr.mk pos seed)).cond.num) ((ftQ code gg (Sr.mk pos seed)).cond.kids)) ((ftQ code gg (Sr.mk pos seed)).kids))]))≤1048576∧a0e (a0a.mk ((ftX code gg (Sr.mk pos seed)).kind) ((ftX code gg (Sr.mk pos seed)).num) (a0b.mk ((ftX code gg (Sr.mk pos seed)).cond.kind) ((ftX code gg (Sr.mk pos seed)).cond.num) ((ftX code gg (Sr.mk pos seed)).cond.kids)) ((ftX code gg (Sr.mk pos seed)).kids))≤1048576)∧((a0g (a0a.mk 5 0 zE [(a0g (a0a.mk 6 0 (a0b.mk ((ftC code gg (Sr.mk pos seed)).kind) ((ftC code gg (Sr.mk pos seed)).num) ((ftC code gg (Sr.mk pos seed)).kids)) [(a0a.mk ((ftP code gg (Sr.mk pos seed)).kind) ((ftP code gg (Sr.mk pos seed)).num) (a0b.mk ((ftP code gg (Sr.mk pos seed)).cond.kind) ((ftP code gg (Sr.mk pos seed)).cond.num) ((ftP code gg (Sr.mk pos seed)).cond.kids)) ((ftP code gg (Sr.mk pos seed)).kids)),(a0a.mk ((ftQ code gg (Sr.mk pos seed)).kind) ((ftQ code gg (Sr.mk pos seed)).num) (a0b.mk ((ftQ code gg (Sr.mk pos seed)).cond.kind) ((ftQ code gg (Sr.mk pos seed)).cond.num) ((ftQ code gg (Sr.mk pos seed)).cond.kids)) ((ftQ code gg (Sr.mk pos seed)).kids))])),(a0a.mk ((ftX code gg (Sr.mk pos seed)).kind) ((ftX code gg (Sr.mk pos seed)).num) (a0b.mk ((ftX code gg (Sr.mk pos seed)).cond.kind) ((ftX code gg (Sr.mk pos seed)).cond.num) ((ftX code gg (Sr.mk pos seed)).cond.kids)) ((ftX code gg (Sr.mk pos seed)).kids))]))=(ftE code gg (Sr.mk pos seed) ru)∧(a2n gg ru code pos seed))))))))))∧((decide (ru=(8:Int)))=false →
 (((decide (ru=(9:Int)))=true →
 ((a0y gg code pos seed)∧((a1k gg code pos seed)∧((a3b gg code pos seed)∧((a3g gg code pos seed)∧((a3b gg code pos seed)∧((a0e (a0a.mk ((ftP code gg (Sr.mk pos seed)).kind) ((ftP code gg (Sr.mk pos seed)).num) (a0b.mk ((ftP code gg (Sr.mk pos seed)).cond.kind) ((ftP code gg (Sr.mk pos seed)).cond.num) ((ftP code gg (Sr.mk pos seed)).cond.kids)) ((ftP code gg (Sr.mk pos seed)).kids))≤1048576∧a0e (a0a.mk ((ftX code gg (Sr.mk pos seed)).kind) ((ftX code gg (Sr.mk pos seed)).num) (a0b.mk ((ftX code gg (Sr.mk pos seed)).cond.kind) ((ftX code gg (Sr.mk pos seed)).cond.num) ((ftX code gg (Sr.mk pos seed)).cond.kids)) ((ftX code gg (Sr.mk pos seed)).kids))≤1048576)∧((a0y gg code pos seed)∧((a3g gg code pos seed)∧((a3b gg code pos seed)∧((a0e (a0a.mk ((ftQ code gg (Sr.mk pos seed)).kind) ((ftQ code gg (Sr.mk pos seed)).num) (a0b.mk ((ftQ code gg (Sr.mk pos seed)).cond.kind) ((ftQ code gg (Sr.mk pos seed)).cond.num) ((ftQ code gg (Sr.mk pos seed)).cond.kids)) ((ftQ code gg (Sr.mk pos seed)).kids))≤1048576∧a0e (a0a.mk ((ftX code gg (Sr.mk pos seed)).kind) ((ftX code gg (Sr.mk pos seed)).num) (a0b.mk ((ftX code gg (Sr.mk pos seed)).cond.kind) ((ftX code gg (Sr.mk pos seed)).cond.num) ((ftX code gg (Sr.mk pos seed)).cond.kids)) ((ftX code gg (Sr.mk pos seed)).kids))≤1048576)∧((a0y gg code pos seed)∧((a0q (a0b.mk ((ftC code gg (Sr.mk pos seed)).kind) ((ftC code gg (Sr.mk pos seed)).num) ((ftC code gg (Sr.mk pos seed)).kids))≤1048576∧a0e (a0g (a0a.mk 5 0 zE [(a0a.mk ((ftP code gg (Sr.mk pos seed)).kind) ((ftP code gg (Sr.mk pos seed)).num) (a0b.mk ((ftP code gg (Sr.mk pos seed)).cond.kind) ((ftP code gg (Sr.mk pos seed)).cond.num) ((ftP code gg (Sr.mk pos seed)).cond.kids)) ((ftP code gg (Sr.mk pos seed)).kids)),(a0a.mk ((ftX code gg (Sr.mk pos seed)).kind) ((ftX code gg (Sr.mk pos seed)).num) (a0b.mk ((ftX code gg (Sr.mk pos seed)).cond.kind) ((ftX code gg (Sr.mk pos seed)).cond.num) ((ftX code gg (Sr.mk pos seed)).cond.kids)) ((ftX code gg (Sr.mk pos seed)).kids))]))≤1048576∧a0e (a0g (a0a.mk 5 0 zE [(a0a.mk ((ftQ code gg (Sr.mk pos seed)).kind) ((ftQ code gg (Sr.mk pos seed)).num) (a0b.mk ((ftQ code gg (Sr.mk pos seed)).cond.kind) ((ftQ code gg (Sr.mk pos seed)).cond.num) ((ftQ code gg (Sr.mk pos seed)).cond.kids)) ((ftQ code gg (Sr.mk pos seed)).kids)),(a0a.mk ((ftX code gg (Sr.mk pos seed)).kind) ((ftX code gg (Sr.mk pos seed)).num) (a0b.mk ((ftX code gg (Sr.mk pos seed)).cond.kind) ((ftX code gg (Sr.mk pos seed)).cond.num) ((ftX code gg (Sr.mk pos seed)).cond.kids)) ((ftX code gg (Sr.mk pos seed)).kids))]))≤1048576)∧((a0g (a0a.mk 6 0 (a0b.mk ((ftC code gg (Sr.mk pos seed)).kind) ((ftC code gg (Sr.mk pos seed)).num) ((ftC code gg (Sr.mk pos seed)).kids)) [(a0g (a0a.mk 5 0 zE [(a0a.mk ((ftP code gg (Sr.mk pos seed)).kind) ((ftP code gg (Sr.mk pos seed)).num) (a0b.mk ((ftP code gg (Sr.mk pos seed)).cond.kind) ((ftP code gg (Sr.mk pos seed)).cond.num) ((ftP code gg (Sr.mk pos seed)).cond.kids)) ((ftP code gg (Sr.mk pos seed)).kids)),(a0a.mk ((ftX code gg (Sr.mk pos seed)).kind) ((ftX code gg (Sr.mk pos seed)).num) (a0b.mk ((ftX code gg (Sr.mk pos seed)).cond.kind) ((ftX code gg (Sr.mk pos seed)).cond.num) ((ftX code gg (Sr.mk pos seed)).cond.kids)) ((ftX code gg (Sr.mk pos seed)).kids))])),(a0g (a0a.mk 5 0 zE [(a0a.mk ((ftQ code gg (Sr.mk pos seed)).kind) ((ftQ code gg (Sr.mk pos seed)).num) (a0b.mk ((ftQ code gg (Sr.mk pos seed)).cond.kind) ((ftQ code gg (Sr.mk pos seed)).cond.num) ((ftQ code gg (Sr.mk pos seed)).cond.kids)) ((ftQ code gg (Sr.mk pos seed)).kids)),(a0a.mk ((ftX code gg (Sr.mk pos seed)).kind) ((ftX code gg (Sr.mk pos seed)).num) (a0b.mk ((ftX code gg (Sr.mk pos seed)).cond.kind) ((ftX code gg (Sr.mk pos seed)).cond.num) ((ftX code gg (Sr.mk pos seed)).cond.kids)) ((ftX code gg (Sr.mk pos seed)).kids))]))]))=(ftE code gg (Sr.mk pos seed) ru)∧(a2n gg ru code pos seed)))))))))))))))∧((decide (ru=(9:Int)))=false →
 (((decide (ru=(10:Int)))=true →
 ((a0y gg code pos seed)∧((a1k gg code pos seed)∧(((15:Nat)=15∧(0:Nat)=0)∧((a3g gg code pos seed)∧((a0s code (ftS code gg (Sr.mk pos seed)) 970000000∧(0≤gg.tests∧gg.tests≤3)∧(0≤gg.actions∧gg.actions≤4))∧((a0y gg code pos seed)∧((a1k gg code pos seed)∧((a3g gg code pos seed)∧((a0q (a0w (cdE code gg.tests gg.actions (ftS code gg (Sr.mk pos seed))))≤1048576∧a0e (a0a.mk ((ftQ code gg (Sr.mk pos seed)).kind) ((ftQ code gg (Sr.mk pos seed)).num) (a0b.mk ((ftQ code gg (Sr.mk pos seed)).cond.kind) ((ftQ code gg (Sr.mk pos seed)).cond.num) ((ftQ code gg (Sr.mk pos seed)).cond.kids)) ((ftQ code gg (Sr.mk pos seed)).kids))≤1048576)∧((a0y gg code pos seed)∧((a1k gg code pos seed)∧((a0e (a0a.mk ((ftP code gg (Sr.mk pos seed)).kind) ((ftP code gg (Sr.mk pos seed)).num) (a0b.mk ((ftP code gg (Sr.mk pos seed)).cond.kind) ((ftP code gg (Sr.mk pos seed)).cond.num) ((ftP code gg (Sr.mk pos seed)).cond.kids)) ((ftP code gg (Sr.mk pos seed)).kids))≤1048576∧a0e (a0g (a0a.mk 7 0 (a0w (cdE code gg.tests gg.actions (ftS code gg (Sr.mk pos seed)))) [(a0a.mk ((ftQ code gg (Sr.mk pos seed)).kind) ((ftQ code gg (Sr.mk pos seed)).num) (a0b.mk ((ftQ code gg (Sr.mk pos seed)).cond.kind) ((ftQ code gg (Sr.mk pos seed)).cond.num) ((ftQ code gg (Sr.mk pos seed)).cond.kids)) ((ftQ code gg (Sr.mk pos seed)).kids))]))≤1048576)∧((a0y gg code pos seed)∧((a0q (a0b.mk ((ftC code gg (Sr.mk pos seed)).kind) ((ftC code gg (Sr.mk pos seed)).num) ((ftC code gg (Sr.mk pos seed)).kids))≤1048576∧a0e (a0g (a0a.mk 5 0 zE [(a0a.mk ((ftP code gg (Sr.mk pos seed)).kind) ((ftP code gg (Sr.mk pos seed)).num) (a0b.mk ((ftP code gg (Sr.mk pos seed)).cond.kind) ((ftP code gg (Sr.mk pos seed)).cond.num) ((ftP code gg (Sr.mk pos seed)).cond.kids)) ((ftP code gg (Sr.mk pos seed)).kids)),(a0g (a0a.mk 7 0 (a0w (cdE code gg.tests gg.actions (ftS code gg (Sr.mk pos seed)))) [(a0a.mk ((ftQ code gg (Sr.mk pos seed)).kind) ((ftQ code gg (Sr.mk pos seed)).num) (a0b.mk ((ftQ code gg (Sr.mk pos seed)).cond.kind) ((ftQ code gg (Sr.mk pos seed)).cond.num) ((ftQ code gg (Sr.mk pos seed)).cond.kids)) ((ftQ code gg (Sr.mk pos seed)).kids))]))]))≤1048576)∧((a0g (a0a.mk 7 0 (a0b.mk ((ftC code gg (Sr.mk pos seed)).kind) ((ftC code gg (Sr.mk pos seed)).num) ((ftC code gg (Sr.mk pos seed)).kids)) [(a0g (a0a.mk 5 0 zE [(a0a.mk ((ftP code gg (Sr.mk pos seed)).kind) ((ftP code gg (Sr.mk pos seed)).num) (a0b.mk ((ftP code gg (Sr.mk pos seed)).cond.kind) ((ftP code gg (Sr.mk pos seed)).cond.num) ((ftP code gg (Sr.mk pos seed)).cond.kids)) ((ftP code gg (Sr.mk pos seed)).kids)),(a0g (a0a.mk 7 0 (a0w (cdE code gg.tests gg.actions (ftS code gg (Sr.mk pos seed)))) [(a0a.mk ((ftQ code gg (Sr.mk pos seed)).kind) ((ftQ code gg (Sr.mk pos seed)).num) (a0b.mk ((ftQ code gg (Sr.mk pos seed)).cond.kind) ((ftQ code gg (Sr.mk pos seed)).cond.num) ((ftQ code gg (Sr.mk pos seed)).cond.kids)) ((ftQ code gg (Sr.mk pos seed)).kids))]))]))]))=(ftE code gg (Sr.mk pos seed) ru)∧((code=code∧(((cdN code gg.tests gg.actions (ftS code gg (Sr.mk pos seed))).pos)=((ftN code gg (Sr.mk pos seed) ru).pos)∧((cdN code gg.tests gg.actions (ftS code gg (Sr.mk pos seed))).seed)=((ftN code gg (Sr.mk pos seed) ru).seed)))∧True)))))))))))))))))∧((decide (ru=(10:Int)))=false →
 (((decide (ru=(11:Int)))=true →
 ((a0y gg code pos seed)∧((a0y gg code pos seed)∧((a1k gg code pos seed)∧((a0q (a0b.mk ((ftC code gg (Sr.mk pos seed)).kind) ((ftC code gg (Sr.mk pos seed)).num) ((ftC code gg (Sr.mk pos seed)).kids))≤1048576∧a0e (a0a.mk ((ftP code gg (Sr.mk pos seed)).kind) ((ftP code gg (Sr.mk pos seed)).num) (a0b.mk ((ftP code gg (Sr.mk pos seed)).cond.kind) ((ftP code gg (Sr.mk pos seed)).cond.num) ((ftP code gg (Sr.mk pos seed)).cond.kids)) ((ftP code gg (Sr.mk pos seed)).kids))≤1048576)∧((a0y gg code pos seed)∧((a0q (a0b.mk ((ftC code gg (Sr.mk pos seed)).kind) ((ftC code gg (Sr.mk pos seed)).num) ((ftC code gg (Sr.mk pos seed)).kids))≤1048576∧a0e (a0g (a0a.mk 7 0 (a0b.mk ((ftC code gg (Sr.mk pos seed)).kind) ((ftC code gg (Sr.mk pos seed)).num) ((ftC code gg (Sr.mk pos seed)).kids)) [(a0a.mk ((ftP code gg (Sr.mk pos seed)).kind) ((ftP code gg (Sr.mk pos seed)).num) (a0b.mk ((ftP code gg (Sr.mk pos seed)).cond.kind) ((ftP code gg (Sr.mk pos seed)).cond.num) ((ftP code gg (Sr.mk pos seed)).cond.kids)) ((ftP code gg (Sr.mk pos seed)).kids))]))≤1048576)∧((a0g (a0a.mk 7 0 (a0b.mk ((ftC code gg (Sr.mk pos seed)).kind) ((ftC code gg (Sr.mk pos seed)).num) ((ftC code gg (Sr.mk pos seed)).kids)) [(a0g (a0a.mk 7 0 (a0b.mk ((ftC code gg (Sr.mk pos seed)).kind) ((ftC code gg (Sr.mk pos seed)).num) ((ftC code gg (Sr.mk pos seed)).kids)) [(a0a.mk ((ftP code gg (Sr.mk pos seed)).kind) ((ftP code gg (Sr.mk pos seed)).num) (a0b.mk ((ftP code gg (Sr.mk pos seed)).cond.kind) ((ftP code gg (Sr.mk pos seed)).cond.num) ((ftP code gg (Sr.mk pos seed)).cond.kids)) ((ftP code gg (Sr.mk pos seed)).kids))]))]))=(ftE code gg (Sr.mk pos seed) ru)∧(a2n gg ru code pos seed)))))))))∧((decide (ru=(11:Int)))=false →
 (((decide (ru=(12:Int)))=true →
 ((a0e (a0a.mk (4:Int) (0:Int) (a0b.mk ((ftC code gg (Sr.mk pos seed)).kind) ((ftC code gg (Sr.mk pos seed)).num) ((ftC code gg (Sr.mk pos seed)).kids)) [])≤1048576∧a0e (a0a.mk ((ftP code gg (Sr.mk pos seed)).kind) ((ftP code gg (Sr.mk pos seed)).num) (a0b.mk ((ftP code gg (Sr.mk pos seed)).cond.kind) ((ftP code gg (Sr.mk pos seed)).cond.num) ((ftP code gg (Sr.mk pos seed)).cond.kids)) ((ftP code gg (Sr.mk pos seed)).kids))≤1048576)∧((a0g (a0a.mk 5 0 zE [(a0a.mk (4:Int) (0:Int) (a0b.mk ((ftC code gg (Sr.mk pos seed)).kind) ((ftC code gg (Sr.mk pos seed)).num) ((ftC code gg (Sr.mk pos seed)).kids)) []),(a0a.mk ((ftP code gg (Sr.mk pos seed)).kind) ((ftP code gg (Sr.mk pos seed)).num) (a0b.mk ((ftP code gg (Sr.mk pos seed)).cond.kind) ((ftP code gg (Sr.mk pos seed)).cond.num) ((ftP code gg (Sr.mk pos seed)).cond.kids)) ((ftP code gg (Sr.mk pos seed)).kids))]))=(ftE code gg (Sr.mk pos seed) ru)∧(a2n gg ru code pos seed))))∧((decide (ru=(12:Int)))=false →
 (((decide (ru=(13:Int)))=true →
 ((a0y gg code pos seed)∧((a1k gg code pos seed)∧((a0y gg code pos seed)∧((a3g gg code pos seed)∧((a3b gg code pos seed)∧((a0q (a0b.mk ((ftC code gg (Sr.mk pos seed)).kind) ((ftC code gg (Sr.mk pos seed)).num) ((ftC code gg (Sr.mk pos seed)).kids))≤1048576∧a0e (a0a.mk ((ftP code gg (Sr.mk pos seed)).kind) ((ftP code gg (Sr.mk pos seed)).num) (a0b.mk ((ftP code gg (Sr.mk pos seed)).cond.kind) ((ftP code gg (Sr.mk pos seed)).cond.num) ((ftP code gg (Sr.mk pos seed)).cond.kids)) ((ftP code gg (Sr.mk pos seed)).kids))≤1048576)∧((a0y gg code pos seed)∧((a3g gg code pos seed)∧((a3b gg code pos seed)∧((a0q (a0b.mk ((ftC code gg (Sr.mk pos seed)).kind) ((ftC code gg (Sr.mk pos seed)).num) ((ftC code gg (Sr.mk pos seed)).kids))≤1048576∧a0e (a0a.mk ((ftQ code gg (Sr.mk pos seed)).kind) ((ftQ code gg (Sr.mk pos seed)).num) (a0b.mk ((ftQ code gg (Sr.mk pos seed)).cond.kind) ((ftQ code gg (Sr.mk pos seed)).cond.num) ((ftQ code gg (Sr.mk pos seed)).cond.kids)) ((ftQ code gg (Sr.mk pos seed)).kids))≤1048576∧a0e (a0a.mk ((ftX code gg (Sr.mk pos seed)).kind) ((ftX code gg (Sr.mk pos seed)).num) (a0b.mk ((ftX code gg (Sr.mk pos seed)).cond.kind) ((ftX code gg (Sr.mk pos seed)).cond.num) ((ftX code gg (Sr.mk pos seed)).cond.kids)) ((ftX code gg (Sr.mk pos seed)).kids))≤1048576)∧((a0e (a0g (a0a.mk 7 0 (a0b.mk ((ftC code gg (Sr.mk pos seed)).kind) ((ftC code gg (Sr.mk pos seed)).num) ((ftC code gg (Sr.mk pos seed)).kids)) [(a0a.mk ((ftP code gg (Sr.mk pos seed)).kind) ((ftP code gg (Sr.mk pos seed)).num) (a0b.mk ((ftP code gg (Sr.mk pos seed)).cond.kind) ((ftP code gg (Sr.mk pos seed)).cond.num) ((ftP code gg (Sr.mk pos seed)).cond.kids)) ((ftP code gg (Sr.mk pos seed)).kids))]))≤1048576∧a0e (a0g (a0a.mk 6 0 (a0b.mk ((ftC code gg (Sr.mk pos seed)).kind) ((ftC code gg (Sr.mk pos seed)).num) ((ftC code gg (Sr.mk pos seed)).kids)) [(a0a.mk ((ftQ code gg (Sr.mk pos seed)).kind) ((ftQ code gg (Sr.mk pos seed)).num) (a0b.mk ((ftQ code gg (Sr.mk pos seed)).cond.kind) ((ftQ code gg (Sr.mk pos seed)).cond.num) ((ftQ code gg (Sr.mk pos seed)).cond.kids)) ((ftQ code gg (Sr.mk pos seed)).kids)),(a0a.mk ((ftX code gg (Sr.mk pos seed)).kind) ((ftX code gg (Sr.mk pos seed)).num) (a0b.mk ((ftX code gg (Sr.mk pos seed)).cond.kind) ((ftX code gg (Sr.mk pos seed)).cond.num) ((ftX code gg (Sr.mk pos seed)).cond.kids)) ((ftX code gg (Sr.mk pos seed)).kids))]))≤1048576)∧((a0g (a0a.mk 5 0 zE [(a0g (a0a.mk 7 0 (a0b.mk ((ftC code gg (Sr.mk pos seed)).kind) ((ftC code gg (Sr.mk pos seed)).num) ((ftC code gg (Sr.mk pos seed)).kids)) [(a0a.mk ((ftP code gg (Sr.mk pos seed)).kind) ((ftP code gg (Sr.mk pos seed)).num) (a0b.mk ((ftP code gg (Sr.mk pos seed)).cond.kind) ((ftP code gg (Sr.mk pos seed)).cond.num) ((ftP code gg (Sr.mk pos seed)).cond.kids)) ((ftP code gg (Sr.mk pos seed)).kids))])),(a0g (a0a.mk 6 0 (a0b.mk ((ftC code gg (Sr.mk pos seed)).kind) ((ftC code gg (Sr.mk pos seed)).num) ((ftC code gg (Sr.mk pos seed)).kids)) [(a0a.mk ((ftQ code gg (Sr.mk pos seed)).kind) ((ftQ code gg (Sr.mk pos seed)).num) (a0b.mk ((ftQ code gg (Sr.mk pos seed)).cond.kind) ((ftQ code gg (Sr.mk pos seed)).cond.num) ((ftQ code gg (Sr.mk pos seed)).cond.kids)) ((ftQ code gg (Sr.mk pos seed)).kids)),(a0a.mk ((ftX code gg (Sr.mk pos seed)).kind) ((ftX code gg (Sr.mk pos seed)).num) (a0b.mk ((ftX code gg (Sr.mk pos seed)).cond.kind) ((ftX code gg (Sr.mk pos seed)).cond.num) ((ftX code gg (Sr.mk pos seed)).cond.kids)) ((ftX code gg (Sr.mk pos seed)).kids))]))]))=(ftE code gg (Sr.mk pos seed) ru)∧(a2n gg ru code pos seed))))))))))))))∧((decide (ru=(13:Int)))=false →
 ((a0y gg code pos seed)∧((a0y gg code pos seed)∧((a1k gg code pos seed)∧((a0y gg code pos seed)∧((a1k gg code pos seed)∧((a0e (a0a.mk (4:Int) (0:Int) (a0b.mk ((ftC code gg (Sr.mk pos seed)).kind) ((ftC code gg (Sr.mk pos seed)).num) ((ftC code gg (Sr.mk pos seed)).kids)) [])≤1048576∧a0e (a0a.mk ((ftP code gg (Sr.mk pos seed)).kind) ((ftP code gg (Sr.mk pos seed)).num) (a0b.mk ((ftP code gg (Sr.mk pos seed)).cond.kind) ((ftP code gg (Sr.mk pos seed)).cond.num) ((ftP code gg (Sr.mk pos seed)).cond.kids)) ((ftP code gg (Sr.mk pos seed)).kids))≤1048576)∧((a0y gg code pos seed)∧((a0q (a0b.mk ((ftC code gg (Sr.mk pos seed)).kind) ((ftC code gg (Sr.mk pos seed)).num) ((ftC code gg (Sr.mk pos seed)).kids))≤1048576∧a0e (a0g (a0a.mk 5 0 zE [(a0a.mk (4:Int) (0:Int) (a0b.mk ((ftC code gg (Sr.mk pos seed)).kind) ((ftC code gg (Sr.mk pos seed)).num) ((ftC code gg (Sr.mk pos seed)).kids)) []),(a0a.mk ((ftP code gg (Sr.mk pos seed)).kind) ((ftP code gg (Sr.mk pos seed)).num) (a0b.mk ((ftP code gg (Sr.mk pos seed)).cond.kind) ((ftP code gg (Sr.mk pos seed)).cond.num) ((ftP code gg (Sr.mk pos seed)).cond.kids)) ((ftP code gg (Sr.mk pos seed)).kids))]))≤1048576)∧((a0g (a0a.mk 7 0 (a0b.mk ((ftC code gg (Sr.mk pos seed)).kind) ((ftC code gg (Sr.mk pos seed)).num) ((ftC code gg (Sr.mk pos seed)).kids)) [(a0g (a0a.mk 5 0 zE [(a0a.mk (4:Int) (0:Int) (a0b.mk ((ftC code gg (Sr.mk pos seed)).kind) ((ftC code gg (Sr.mk pos seed)).num) ((ftC code gg (Sr.mk pos seed)).kids)) []),(a0a.mk ((ftP code gg (Sr.mk pos seed)).kind) ((ftP code gg (Sr.mk pos seed)).num) (a0b.mk ((ftP code gg (Sr.mk pos seed)).cond.kind) ((ftP code gg (Sr.mk pos seed)).cond.num) ((ftP code gg (Sr.mk pos seed)).cond.kids)) ((ftP code gg (Sr.mk pos seed)).kids))]))]))=(ftE code gg (Sr.mk pos seed) ru)∧(a2n gg ru code pos seed))))))))))))))))))))))))))))))))))))))))))):=by kernel_rfl
theorem e0m(hE:a0p [])(hO:a4f [a2v,a2g,a1l,a1x])(hM:a4x [])(hS:a4p [a2y,a4l,a1z]):SCt.Good a7x:=by
 refine⟨a0j c5k rfl (by decide),?_⟩
 show ∀ (gg:a0l) (ru:Int) (code:List Int) (pos:Int) (seed:Int),(a0s code (Sr.mk pos seed) 860000000∧a1y gg=true)→b7w prog c0c [[.d (.slice (.int .u8)), .d (.int .i64), .d (.int .u64)]] [.box 0, .val ⟨(.st .sig),gg⟩, .val ⟨(.int .i64),ru⟩] [[⟨(.slice (.int .u8)),code⟩,⟨(.int .i64),pos⟩,⟨(.int .u64),seed⟩]] [⟨(.st .prog),ftE code gg (Sr.mk pos seed) ru⟩] [[⟨(.slice (.int .u8)),code⟩,⟨(.int .i64),(ftN code gg (Sr.mk pos seed) ru).pos⟩,⟨(.int .u64),(ftN code gg (Sr.mk pos seed) ru).seed⟩]]
 intro gg ru code pos seed hp
 refine a7z (own:=[17,19,24,29,35,42,43,44,45,51,57,62,64,70,71,76,78,80,81,87,89,95,98,99,105,107,108,109,115,116,122,127,131,132,137,138]) (wr:=[]) (cl:=[]) (ro:=[4]) hE hO hM hS c5k d7d (c6d gg ru code pos seed) rfl rfl ?_
 rewrite [e0t gg ru code pos seed]
 have hg:=(a6e gg).1 hp.2
 have F:=g3a code gg (Sr.mk pos seed) _ hp.2 hp.1
 have w2:wG (Int.toNat 2)=7:=rfl
 refine⟨?_,⟨?_,⟨?_,⟨⟨?_,⟨(),⟨?_,⟨⟨trivial,⟨rfl,⟨trivial,⟨trivial,⟨trivial,⟨trivial,⟨trivial,⟨trivial,trivial⟩⟩⟩⟩⟩⟩⟩⟩,⟨⟨rfl,⟨?_,⟨?_,trivial⟩⟩⟩,⟨⟨trivial,⟨rfl,⟨rfl,⟨?_,trivial⟩⟩⟩⟩,⟨⟨?_,⟨?_,⟨trivial,trivial⟩⟩⟩,⟨?_,⟨⟨?_,⟨?_,⟨?_,⟨?_,⟨trivial,⟨trivial,trivial⟩⟩⟩⟩⟩⟩,⟨?_,⟨?_,⟨⟨?_,⟨?_,⟨?_,⟨?_,⟨trivial,⟨trivial,trivial⟩⟩⟩⟩⟩⟩,⟨?_,⟨?_,⟨⟨?_,⟨?_,⟨?_,⟨?_,⟨trivial,⟨trivial,trivial⟩⟩⟩⟩⟩⟩,⟨?_,⟨?_,⟨⟨rfl,⟨rfl,⟨rfl,⟨rfl,⟨trivial,⟨trivial,trivial⟩⟩⟩⟩⟩⟩,trivial⟩⟩⟩⟩⟩⟩⟩⟩⟩⟩⟩⟩⟩⟩⟩⟩⟩⟩,fun u1=>fun a0=>⟨fun a1=>⟨?_,⟨?_,⟨⟨rfl,⟨?_,?_⟩⟩,trivial⟩⟩⟩,fun a1=>⟨fun a2=>⟨⟨rfl,⟨rfl,⟨?_,?_⟩⟩⟩,⟨⟨rfl,⟨rfl,⟨rfl,⟨rfl,⟨?_,⟨?_,?_⟩⟩⟩⟩⟩⟩,⟨⟨rfl,⟨rfl,⟨?_,?_⟩⟩⟩,⟨⟨rfl,⟨rfl,⟨rfl,⟨rfl,⟨?_,⟨?_,?_⟩⟩⟩⟩⟩⟩,⟨?_,⟨⟨rfl,⟨rfl,⟨?_,?_⟩⟩⟩,⟨⟨rfl,⟨rfl,⟨rfl,⟨rfl,⟨?_,⟨?_,?_⟩⟩⟩⟩⟩⟩,⟨?_,⟨⟨rfl,⟨rfl,⟨?_,?_⟩⟩⟩,⟨⟨rfl,⟨rfl,⟨?_,?_⟩⟩⟩,⟨?_,⟨?_,⟨⟨rfl,⟨?_,?_⟩⟩,trivial⟩⟩⟩⟩⟩⟩⟩⟩⟩⟩⟩⟩⟩,fun a2=>⟨fun a3=>⟨?_,⟨?_,⟨⟨rfl,⟨?_,?_⟩⟩,trivial⟩⟩⟩,fun a3=>⟨fun a4=>⟨?_,⟨?_,⟨⟨rfl,⟨?_,?_⟩⟩,trivial⟩⟩⟩,fun a4=>⟨fun a5=>⟨⟨rfl,⟨rfl,⟨rfl,⟨rfl,⟨?_,⟨?_,?_⟩⟩⟩⟩⟩⟩,⟨⟨rfl,⟨rfl,⟨rfl,⟨rfl,⟨?_,⟨?_,?_⟩⟩⟩⟩⟩⟩,⟨⟨rfl,⟨rfl,⟨rfl,⟨rfl,⟨?_,⟨?_,?_⟩⟩⟩⟩⟩⟩,⟨?_,⟨⟨rfl,⟨rfl,⟨rfl,⟨rfl,⟨?_,⟨?_,?_⟩⟩⟩⟩⟩⟩,⟨?_,⟨?_,⟨⟨rfl,⟨?_,?_⟩⟩,trivial⟩⟩⟩⟩⟩⟩⟩⟩,fun a5=>⟨fun a6=>⟨⟨rfl,⟨rfl,⟨rfl,⟨rfl,⟨?_,⟨?_,?_⟩⟩⟩⟩⟩⟩,⟨⟨rfl,⟨rfl,⟨rfl,⟨rfl,⟨?_,⟨?_,?_⟩⟩⟩⟩⟩⟩,⟨⟨rfl,⟨rfl,⟨rfl,⟨rfl,⟨?_,⟨?_,?_⟩⟩⟩⟩⟩⟩,⟨?_,⟨⟨rfl,⟨rfl,⟨rfl,⟨rfl,⟨?_,⟨?_,?_⟩⟩⟩⟩⟩⟩,⟨?_,⟨?_,⟨⟨rfl,⟨?_,?_⟩⟩,trivial⟩⟩⟩⟩⟩⟩⟩⟩,fun a6=>⟨fun a7=>⟨?_,⟨fun a8=>⟨⟨rfl,⟨rfl,⟨rfl,⟨rfl,⟨?_,⟨?_,?_⟩⟩⟩⟩⟩⟩,⟨⟨rfl,⟨rfl,⟨rfl,⟨rfl,⟨?_,⟨?_,?_⟩⟩⟩⟩⟩⟩,⟨?_,⟨?_,⟨⟨rfl,⟨?_,?_⟩⟩,trivial⟩⟩⟩⟩⟩,fun a8=>⟨⟨rfl,⟨rfl,⟨rfl,⟨rfl,⟨?_,⟨?_,?_⟩⟩⟩⟩⟩⟩,⟨⟨rfl,⟨rfl,⟨rfl,⟨rfl,⟨?_,⟨?_,?_⟩⟩⟩⟩⟩⟩,⟨?_,⟨?_,⟨⟨rfl,⟨?_,?_⟩⟩,trivial⟩⟩⟩⟩⟩⟩⟩,fun a7=>⟨fun a8=>⟨⟨rfl,⟨rfl,⟨?_,?_⟩⟩⟩,⟨⟨rfl,⟨rfl,⟨rfl,⟨rfl,⟨?_,⟨?_,?_⟩⟩⟩⟩⟩⟩,⟨⟨rfl,⟨rfl,⟨rfl,⟨rfl,⟨?_,⟨?_,?_⟩⟩⟩⟩⟩⟩,⟨⟨rfl,⟨rfl,⟨rfl,⟨rfl,⟨?_,⟨?_,?_⟩⟩⟩⟩⟩⟩,⟨?_,⟨⟨rfl,⟨rfl,⟨rfl,⟨rfl,⟨?_,⟨?_,?_⟩⟩⟩⟩⟩⟩,⟨?_,⟨?_,⟨⟨rfl,⟨?_,?_⟩⟩,trivial⟩⟩⟩⟩⟩⟩⟩⟩⟩,fun a8=>⟨fun a9=>⟨⟨rfl,⟨rfl,⟨?_,?_⟩⟩⟩,⟨⟨rfl,⟨rfl,⟨rfl,⟨rfl,⟨?_,⟨?_,?_⟩⟩⟩⟩⟩⟩,⟨⟨rfl,⟨rfl,⟨rfl,⟨rfl,⟨?_,⟨?_,?_⟩⟩⟩⟩⟩⟩,⟨⟨rfl,⟨rfl,⟨rfl,⟨rfl,⟨?_,⟨?_,?_⟩⟩⟩⟩⟩⟩,⟨⟨rfl,⟨rfl,⟨rfl,⟨rfl,⟨?_,⟨?_,?_⟩⟩⟩⟩⟩⟩,⟨?_,⟨⟨rfl,⟨rfl,⟨?_,?_⟩⟩⟩,⟨⟨rfl,⟨rfl,⟨rfl,⟨rfl,⟨?_,⟨?_,?_⟩⟩⟩⟩⟩⟩,⟨⟨rfl,⟨rfl,⟨rfl,⟨rfl,⟨?_,⟨?_,?_⟩⟩⟩⟩⟩⟩,⟨?_,⟨⟨rfl,⟨rfl,⟨?_,?_⟩⟩⟩,⟨?_,⟨?_,⟨⟨rfl,⟨?_,?_⟩⟩,trivial⟩⟩⟩⟩⟩⟩⟩⟩⟩⟩⟩⟩⟩⟩,fun a9=>⟨fun a10=>⟨⟨rfl,⟨rfl,⟨?_,?_⟩⟩⟩,⟨⟨rfl,⟨rfl,⟨rfl,⟨rfl,⟨?_,⟨?_,?_⟩⟩⟩⟩⟩⟩,⟨⟨?_,?_⟩,⟨⟨rfl,⟨rfl,⟨rfl,⟨rfl,⟨?_,⟨?_,?_⟩⟩⟩⟩⟩⟩,⟨?_,⟨⟨rfl,⟨rfl,⟨?_,?_⟩⟩⟩,⟨⟨rfl,⟨rfl,⟨rfl,⟨rfl,⟨?_,⟨?_,?_⟩⟩⟩⟩⟩⟩,⟨⟨rfl,⟨rfl,⟨rfl,⟨rfl,⟨?_,⟨?_,?_⟩⟩⟩⟩⟩⟩,⟨?_,⟨⟨rfl,⟨rfl,⟨?_,?_⟩⟩⟩,⟨⟨rfl,⟨rfl,⟨rfl,⟨rfl,⟨?_,⟨?_,?_⟩⟩⟩⟩⟩⟩,⟨?_,⟨⟨rfl,⟨rfl,⟨?_,?_⟩⟩⟩,⟨?_,⟨?_,⟨⟨rfl,⟨?_,?_⟩⟩,trivial⟩⟩⟩⟩⟩⟩⟩⟩⟩⟩⟩⟩⟩⟩⟩⟩,fun a10=>⟨fun a11=>⟨⟨rfl,⟨rfl,⟨?_,?_⟩⟩⟩,⟨⟨rfl,⟨rfl,⟨?_,?_⟩⟩⟩,⟨⟨rfl,⟨rfl,⟨rfl,⟨rfl,⟨?_,⟨?_,?_⟩⟩⟩⟩⟩⟩,⟨?_,⟨⟨rfl,⟨rfl,⟨?_,?_⟩⟩⟩,⟨?_,⟨?_,⟨⟨rfl,⟨?_,?_⟩⟩,trivial⟩⟩⟩⟩⟩⟩⟩⟩,fun a11=>⟨fun a12=>⟨?_,⟨?_,⟨⟨rfl,⟨?_,?_⟩⟩,trivial⟩⟩⟩,fun a12=>⟨fun a13=>⟨⟨rfl,⟨rfl,⟨?_,?_⟩⟩⟩,⟨⟨rfl,⟨rfl,⟨rfl,⟨rfl,⟨?_,⟨?_,?_⟩⟩⟩⟩⟩⟩,⟨⟨rfl,⟨rfl,⟨?_,?_⟩⟩⟩,⟨⟨rfl,⟨rfl,⟨rfl,⟨rfl,⟨?_,⟨?_,?_⟩⟩⟩⟩⟩⟩,⟨⟨rfl,⟨rfl,⟨rfl,⟨rfl,⟨?_,⟨?_,?_⟩⟩⟩⟩⟩⟩,⟨?_,⟨⟨rfl,⟨rfl,⟨?_,?_⟩⟩⟩,⟨⟨rfl,⟨rfl,⟨rfl,⟨rfl,⟨?_,⟨?_,?_⟩⟩⟩⟩⟩⟩,⟨⟨rfl,⟨rfl,⟨rfl,⟨rfl,⟨?_,⟨?_,?_⟩⟩⟩⟩⟩⟩,⟨?_,⟨?_,⟨?_,⟨⟨rfl,⟨?_,?_⟩⟩,trivial⟩⟩⟩⟩⟩⟩⟩⟩⟩⟩⟩⟩⟩,fun a13=>⟨⟨rfl,⟨rfl,⟨?_,?_⟩⟩⟩,⟨⟨rfl,⟨rfl,⟨?_,?_⟩⟩⟩,⟨⟨rfl,⟨rfl,⟨rfl,⟨rfl,⟨?_,⟨?_,?_⟩⟩⟩⟩⟩⟩,⟨⟨rfl,⟨rfl,⟨?_,?_⟩⟩⟩,⟨⟨rfl,⟨rfl,⟨rfl,⟨rfl,⟨?_,⟨?_,?_⟩⟩⟩⟩⟩⟩,⟨?_,⟨⟨rfl,⟨rfl,⟨?_,?_⟩⟩⟩,⟨?_,⟨?_,⟨⟨rfl,⟨?_,?_⟩⟩,trivial⟩⟩⟩⟩⟩⟩⟩⟩⟩⟩⟩⟩⟩⟩⟩⟩⟩⟩⟩⟩⟩⟩⟩⟩⟩⟩⟩
 all_goals try and_intros
 all_goals try simp only[a0b.eta,a0a.eta,a2b,a2d] at *
 all_goals (try simp only[c8d,a0b.eta,a0a.eta,decide_eq_true_eq,decide_eq_false_iff_not,Bool.not_true,Bool.not_false,Bool.not_eq_true',Bool.not_eq_false'] at *);first|rfl|trivial|omega|exact (g6k code gg (Sr.mk pos seed) ru (by assumption)).1|exact congrArg Sr.pos (g6k code gg (Sr.mk pos seed) ru (by assumption)).2|exact congrArg Sr.seed (g6k code gg (Sr.mk pos seed) ru (by assumption)).2|exact (g6l code gg (Sr.mk pos seed) ru (by assumption)).1|exact congrArg Sr.pos (g6l code gg (Sr.mk pos seed) ru (by assumption)).2|exact congrArg Sr.seed (g6l code gg (Sr.mk pos seed) ru (by assumption)).2|exact (g6m code gg (Sr.mk pos seed) ru (by assumption)).1|exact congrArg Sr.pos (g6m code gg (Sr.mk pos seed) ru (by assumption)).2|exact congrArg Sr.seed (g6m code gg (Sr.mk pos seed) ru (by assumption)).2|exact (g6n code gg (Sr.mk pos seed) ru (by assumption)).1|exact congrArg Sr.pos (g6n code gg (Sr.mk pos seed) ru (by assumption)).2|exact congrArg Sr.seed (g6n code gg (Sr.mk pos seed) ru (by assumption)).2|exact (g6o code gg (Sr.mk pos seed) ru (by assumption)).1|exact congrArg Sr.pos (g6o code gg (Sr.mk pos seed) ru (by assumption)).2|exact congrArg Sr.seed (g6o code gg (Sr.mk pos seed) ru (by assumption)).2|exact (g6p code gg (Sr.mk pos seed) ru (by assumption)).1|exact congrArg Sr.pos (g6p code gg (Sr.mk pos seed) ru (by assumption)).2|exact congrArg Sr.seed (g6p code gg (Sr.mk pos seed) ru (by assumption)).2|exact (g6q code gg (Sr.mk pos seed) ru (by assumption)).1|exact congrArg Sr.pos (g6q code gg (Sr.mk pos seed) ru (by assumption)).2|exact congrArg Sr.seed (g6q code gg (Sr.mk pos seed) ru (by assumption)).2|exact (g6r code gg (Sr.mk pos seed) ru (by assumption)).1|exact congrArg Sr.pos (g6r code gg (Sr.mk pos seed) ru (by assumption)).2|exact congrArg Sr.seed (g6r code gg (Sr.mk pos seed) ru (by assumption)).2|exact (g2t code gg (Sr.mk pos seed) ru (by assumption)).1|exact congrArg Sr.pos (g2t code gg (Sr.mk pos seed) ru (by assumption)).2|exact congrArg Sr.seed (g2t code gg (Sr.mk pos seed) ru (by assumption)).2|exact (g2u code gg (Sr.mk pos seed) ru (by assumption)).1|exact congrArg Sr.pos (g2u code gg (Sr.mk pos seed) ru (by assumption)).2|exact congrArg Sr.seed (g2u code gg (Sr.mk pos seed) ru (by assumption)).2|exact (g2v code gg (Sr.mk pos seed) ru (by assumption)).1|exact congrArg Sr.pos (g2v code gg (Sr.mk pos seed) ru (by assumption)).2|exact congrArg Sr.seed (g2v code gg (Sr.mk pos seed) ru (by assumption)).2|exact (g2w code gg (Sr.mk pos seed) ru (by assumption)).1|exact congrArg Sr.pos (g2w code gg (Sr.mk pos seed) ru (by assumption)).2|exact congrArg Sr.seed (g2w code gg (Sr.mk pos seed) ru (by assumption)).2|exact (g2y code gg (Sr.mk pos seed) ru (by assumption) (by assumption)).1|exact congrArg Sr.pos (g2y code gg (Sr.mk pos seed) ru (by assumption) (by assumption)).2|exact congrArg Sr.seed (g2y code gg (Sr.mk pos seed) ru (by assumption) (by assumption)).2|exact (g2z code gg (Sr.mk pos seed) ru (by assumption) (by assumption)).1|exact congrArg Sr.pos (g2z code gg (Sr.mk pos seed) ru (by assumption) (by assumption)).2|exact congrArg Sr.seed (g2z code gg (Sr.mk pos seed) ru (by assumption) (by assumption)).2|exact (g2x code gg (Sr.mk pos seed) ru (by assumption) (by assumption) (by assumption) (by assumption) (by assumption) (by assumption) (by assumption) (by assumption) (by assumption) (by assumption) (by assumption) (by assumption) (by assumption)).1|exact congrArg Sr.pos (g2x code gg (Sr.mk pos seed) ru (by assumption) (by assumption) (by assumption) (by assumption) (by assumption) (by assumption) (by assumption) (by assumption) (by assumption) (by assumption) (by assumption) (by assumption) (by assumption)).2|exact congrArg Sr.seed (g2x code gg (Sr.mk pos seed) ru (by assumption) (by assumption) (by assumption) (by assumption) (by assumption) (by assumption) (by assumption) (by assumption) (by assumption) (by assumption) (by assumption) (by assumption) (by assumption)).2|exact hp.1.mono (by decide)|exact a0s.mono F.a (by omega)|exact a0s.mono F.r (by omega)|exact a0s.mono F.t (by omega)|exact a0s.mono F.u (by omega)|exact F.lr.1|exact F.lt.1|exact F.lu.1|(have z1:=F.zc;have z2:a0q (cdE code gg.tests gg.actions (ftS code gg (Sr.mk pos seed)))≤14:=F.zd;have z3:=F.zp;have z4:=F.zq;have z5:=F.zx;first|omega|(simp only[a0e,a3v,a0q,a7p,List.length_cons,List.length_nil];omega))
theorem d6p:SCt.Good a7x:=e0m trivial ⟨b0y,a6u,a4m,a6c,trivial⟩ trivial ⟨b3x,c0i,a6d,trivial⟩
end
end Go.Proofs.Ytlaoejdeanljgaa

set_option linter.unusedVariables false
set_option linter.unusedSimpArgs false
set_option linter.unusedSectionVars false
set_option maxRecDepth 4000
set_option maxHeartbeats 4000000
namespace Go.Proofs.Ytlaoejdeanljgaa
noncomputable section
def a2G(code:List Int):a0l:=dgG code (Sr.mk 0 0)
def a2A(code:List Int):Sr:=dgN code (Sr.mk 0 0)
def stR(code:List Int):Int:=1+pk code (a2A code) 14
def stB(code:List Int):Sr:=pkN code (a2A code) 14
def stP(code:List Int):a0a:=ftE code (a2G code) (stB code) (stR code)
def stC(code:List Int):Sr:=ftN code (a2G code) (stB code) (stR code)
def stO(code:List Int):Bool:=a2t code (stC code) 2
def stD(code:List Int):Sr:=pkN code (stC code) 2
def stH(code:List Int):Gp:=pgG code (a2G code).tests (a2G code).actions 5 (stD code) 3
def stQ(code:List Int):a0a:=bif stO code then a3k (stH code).p (stP code) else stP code
def stE(code:List Int):Sr:=bif stO code then (stH code).s else stD code
def stJ(code:List Int):List Int:=bif stO code then [1] else []
def stU(code:List Int):Bool:=a2t code (stE code) 4
def stF(code:List Int):Sr:=pkN code (stE code) 4
def stc(code:List Int):a0b:=cdE code (a2G code).tests (a2G code).actions (stF code)
def stX(code:List Int):a0a:=bif stU code then mWh (stc code) (stQ code) else stQ code
def stK(code:List Int):List Int:=bif stU code then 0::stJ code else stJ code
def stG(code:List Int):Sr:=bif stU code then cdN code (a2G code).tests (a2G code).actions (stF code) else stF code
def stV(code:List Int):Bool:=okP (a2G code) (stX code)&&okE (a2G code) (peE (stX code))
def siP(code:List Int):a0a:=bif stV code then stX code else mWh (a0b.mk 2 0 []) mSk
def siK(code:List Int):List Int:=bif stV code then stK code else []
def siR(code:List Int):Int:=bif stV code then stR code else 1
structure StF(code:List Int):Prop where
 g:a1y (a2G code)=true
 s0:a0s code (Sr.mk 0 0) 800000000
 s1:a0s code (a2A code) 800000000
 s2:a0s code (stB code) 800000000
 s3:a0s code (stC code) 800000000
 s4:a0s code (stD code) 800000000
 s5:a0s code (stE code) 800000000
 s6:a0s code (stF code) 800000000
 r:1≤stR code∧stR code≤14
 zp:a0e (stP code)≤2000
 zh:a0e (stH code).p≤2000
 zq:a0e (stQ code)≤5000
 zc:a0q (stc code)≤14
 pe:prG (stX code)
 k:(stJ code).length≤1
theorem h1h(code:List Int)(hb:a6o code)(hl:code.length≤1000000):StF code:=by
 have q0:a0s code (Sr.mk 0 0) 0:=⟨hb,by decide,by decide,hl,by decide,by decide⟩
 obtain⟨g,q1⟩:=h0b code (Sr.mk 0 0) 0 q0
 have g:a1y (a2G code)=true:=g
 have q1:a0s code (a2A code) (0+8):=q1
 have hg:=(a6e _).1 g
 have hp:=q1.pk 14
 have q2:a0s code (stB code) (0+8+2):=q1.next 14
 have q3:a0s code (stC code) _:=g9k code (a2G code) (stB code) _ (stR code) g q2
 have q4:a0s code (stD code) _:=q3.next 2
 have w5:wG 5=63:=rfl
 have rb:=c4t code _ _ hg.1 hg.2 5 (stD code) _ 3 q4
 have q5:a0s code (stE code) 100000:=by
  unfold stE
  cases stO code
  ·exact q4.mono (by omega)
  ·exact a0s.mono rb.sr (by omega)
 have q6:a0s code (stF code) _:=q5.next 4
 have c:=c5a code _ _ _ (stF code) hg.1 hg.2 q6
 have tp:a1d (a2G code) (stP code)=true:=g6j code (a2G code) (stB code) _ _ g q2
 have th:a1d (a2G code) (stH code).p=true:=c2k code (a2G code) g 5 (stD code) _ 3 q4
 have zp:a0e (stP code)≤2000:=g9i code (a2G code) (stB code) _ _ g q2
 have zh:a0e (stH code).p≤2000:=Nat.le_trans rb.sz (by omega)
 have tq:a1d (a2G code) (stQ code)=true:=by
  unfold stQ
  cases stO code
  ·exact tp
  ·exact g7x th tp
 refine⟨g,q0.mono (by decide),q1.mono (by decide),q2.mono (by decide),q3.mono (by omega),q4.mono (by omega),q5.mono (by omega),q6.mono (by omega),by unfold stR;omega,zp,zh,?_,c.sz,⟨_,g,?_⟩,?_⟩
 ·unfold stQ
  cases stO code
  ·exact Nat.le_trans zp (by omega)
  ·simp only[cond_true,g7z];omega
 ·unfold stX
  cases stU code
  ·exact tq
  ·exact g9u (c.isC g) tq
 ·unfold stJ
  cases stO code<;>decide
theorem c8r(code:List Int)(h:a2t code (stC code) 2=true):a3k (stH code).p (stP code)=stQ code∧(stH code).s=stE code∧[1]=stJ code:=by
 have h:stO code=true:=h
 unfold stQ stE stJ;rw[h];exact⟨rfl,rfl,rfl⟩
theorem c8q(code:List Int)(h:a2t code (stC code) 2=false):stP code=stQ code∧stD code=stE code∧[]=stJ code:=by
 have h:stO code=false:=h
 unfold stQ stE stJ;rw[h];exact⟨rfl,rfl,rfl⟩
theorem c8t(code:List Int)(h:a2t code (stE code) 4=true):mWh (stc code) (stQ code)=stX code∧cdN code (a2G code).tests (a2G code).actions (stF code)=stG code∧0::stJ code=stK code:=by
 have h:stU code=true:=h
 unfold stX stG stK;rw[h];exact⟨rfl,rfl,rfl⟩
theorem c8s(code:List Int)(h:a2t code (stE code) 4=false):stQ code=stX code∧stF code=stG code∧stJ code=stK code:=by
 have h:stU code=false:=h
 unfold stX stG stK;rw[h];exact⟨rfl,rfl,rfl⟩
theorem g3p(code:List Int)(h:okP (a2G code) (stX code)=true)(h2:okE (a2G code) (peE (stX code))=true):stX code=siP code∧stK code=siK code∧stR code=siR code:=by
 have h:stV code=true:=by rw[stV,h,h2];rfl
 unfold siP siK siR;rw[h];exact⟨rfl,rfl,rfl⟩
theorem e4m(code:List Int)(h:okP (a2G code) (stX code)=false∨okE (a2G code) (peE (stX code))=false):mWh (a0b.mk 2 0 []) mSk=siP code∧[]=siK code∧1=siR code:=by
 have h:stV code=false:=by rcases h with h|h<;>simp[stV,h]
 unfold siP siK siR;rw[h];exact⟨rfl,rfl,rfl⟩
theorem g3o{r:Int}(h:1≤r∧r≤14):a0d r:=by unfold a0d;omega
theorem e2m:Ctr.Good a1l:=a4m.plain
def b6p:Ctr:=⟨c6y,[.v (.slice (.int .u8))],fun (code:List Int)=>⟨(some (a6o code∧code.length≤1000000),[⟨(.st .sig),a2G code⟩,⟨(.st .prog),siP code⟩,⟨(.slice (.int .i64)),siK code⟩,⟨(.int .i64),siR code⟩])⟩⟩
def d9l(code:List Int):Nat→a0t:=(fun zb=>if Nat.beq zb 100006 then .mk (Unit) (fun u=>True) (fun u=>0) [2304,2305] [0,1,12,13,14,15,16,17,18,19,20,21,22,23] (fun u=>[(9, .ptr 9 0),(8, .imm ⟨(.int .i64),(stR code:Int)⟩),(10, .tree 9000)]) [2,3,4,5,6,7,8,10,11,24,25,26,27,28,29,30,31,32,33,34,35,36,37,38,39,40,41,42,43,44,45,46,47,48,49,50,51,52,53,54,55,56,57,58,59] (fun u=>[(13, .box [.imm ⟨(.slice (.int .u8)),(code:List Int)⟩, .imm ⟨(.int .i64),((stC code).pos:Int)⟩, .imm ⟨(.int .u64),((stC code).seed:Int)⟩]),(9, .box [.imm ⟨(.int .i64),((stP code).kind:Int)⟩, .imm ⟨(.int .i64),((stP code).num:Int)⟩, .imm ⟨(.int .i64),((stP code).cond.kind:Int)⟩, .imm ⟨(.int .i64),((stP code).cond.num:Int)⟩, .imm ⟨(.slice (.st .expr)),((stP code).cond.kids:List a0b)⟩, .imm ⟨(.slice (.st .prog)),((stP code).kids:List a0a)⟩]),(9000, .tree (.int .i64) (([]:List Int):List Int))]) [] [] (fun u=>(fun zb=>if Nat.beq zb 100009 then .mk (Unit) (fun u=>True) (fun u=>0) [3104,3105] [0,1,12,13,14,15,16,17,18,19,20,21,22,23,24,25,26,27,28,29,30,31] (fun u=>[(9, .ptr 9 0),(10, .tree 9000)]) [2,3,4,5,6,7,8,10,11,32,33,34,35,36,37,38,39,40,41,42,43,44,45,46,47,48,49,50,51,52,53,54,55,56,57,58,59] (fun u=>[(13, .box [.imm ⟨(.slice (.int .u8)),(code:List Int)⟩, .imm ⟨(.int .i64),((stE code).pos:Int)⟩, .imm ⟨(.int .u64),((stE code).seed:Int)⟩]),(9, .box [.imm ⟨(.int .i64),((stQ code).kind:Int)⟩, .imm ⟨(.int .i64),((stQ code).num:Int)⟩, .imm ⟨(.int .i64),((stQ code).cond.kind:Int)⟩, .imm ⟨(.int .i64),((stQ code).cond.num:Int)⟩, .imm ⟨(.slice (.st .expr)),((stQ code).cond.kids:List a0b)⟩, .imm ⟨(.slice (.st .prog)),((stQ code).kids:List a0a)⟩]),(9000, .tree (.int .i64) (stJ code:List Int))]) [] [] (fun u=>(fun zb=>if Nat.beq zb 100012 then .mk (Unit) (fun u=>True) (fun u=>0) [3904,3905,9000,4200] [0,1,6,12,13,14,15,16,17,18,19,20,21,22,23,24,25,26,27,28,29,30,31,32,33,34,35,36,37,38,39,40,41] (fun u=>[(9, .ptr 9 0),(10, .imm ⟨(.slice (.int .i64)),(stK code:List Int)⟩)]) [2,3,4,5,7,8,10,11,42,43,44,45,46,47,48,49,50,51,52,53,54,55,56,57,58,59] (fun u=>[(13, .box [.imm ⟨(.slice (.int .u8)),(code:List Int)⟩, .imm ⟨(.int .i64),((stG code).pos:Int)⟩, .imm ⟨(.int .u64),((stG code).seed:Int)⟩]),(9, .box [.imm ⟨(.int .i64),((stX code).kind:Int)⟩, .imm ⟨(.int .i64),((stX code).num:Int)⟩, .imm ⟨(.int .i64),((stX code).cond.kind:Int)⟩, .imm ⟨(.int .i64),((stX code).cond.num:Int)⟩, .imm ⟨(.slice (.st .expr)),((stX code).cond.kids:List a0b)⟩, .imm ⟨(.slice (.st .prog)),((stX code).kids:List a0a)⟩])]) [] [] (fun u=>fun _ => .none) else .none)) else .none)) else .none)
abbrev a5h(code:List Int):Prop:=((dgG code (Sr.mk (0:Int) (0:Int))).tests=(dgG code (Sr.mk (0:Int) (0:Int))).tests∧((dgG code (Sr.mk (0:Int) (0:Int))).actions=(dgG code (Sr.mk (0:Int) (0:Int))).actions∧True))
abbrev b2q(code:List Int):Prop:=((a5h code)∧(((0:Int)=(0:Int)∧((0:Int)=(0:Int)∧((0:Int)=(0:Int)∧((0:Int)=(0:Int)∧(True∧(True∧True))))))∧(((0:Int)=(0:Int)∧((0:Int)=(0:Int)∧True))∧True)))
abbrev d2d(code:List Int):Prop:=(((stP code).kind)=((stP code).kind)∧(((stP code).num)=((stP code).num)∧(((stP code).cond.kind)=((stP code).cond.kind)∧(((stP code).cond.num)=((stP code).cond.num)∧(((stP code).cond.kids)=((stP code).cond.kids)∧(((stP code).kids)=((stP code).kids)∧True))))))
abbrev d2e(code:List Int):Prop:=(((stQ code).kind)=((stQ code).kind)∧(((stQ code).num)=((stQ code).num)∧(((stQ code).cond.kind)=((stQ code).cond.kind)∧(((stQ code).cond.num)=((stQ code).cond.num)∧(((stQ code).cond.kids)=((stQ code).cond.kids)∧(((stQ code).kids)=((stQ code).kids)∧True))))))
abbrev d2f(code:List Int):Prop:=((a5h code)∧((a5h code)∧((a5h code)∧((a0q (a0b.mk 2 0 [])≤1048576∧a0e (a0a.mk 1 0 zE [])≤1048576)∧((a5h code)∧((dgG code (Sr.mk (0:Int) (0:Int)))=(a2G code)∧((a0g (a0a.mk 7 0 (a0b.mk 2 0 []) [(a0a.mk 1 0 zE [])]))=(siP code)∧([]=(siK code)∧(1:Int)=(siR code)))))))))
abbrev d2g(code:List Int):Prop:=(((stX code).kind)=((stX code).kind)∧(((stX code).num)=((stX code).num)∧(((stX code).cond.kind)=((stX code).cond.kind)∧(((stX code).cond.num)=((stX code).cond.num)∧(((stX code).cond.kids)=((stX code).cond.kids)∧(((stX code).kids)=((stX code).kids)∧True))))))
abbrev d2h(code:List Int):Prop:=((stK code).length≤140737488355328 →
 (a0d (stR code) →
 ((a5h code)∧((d2g code)∧((stK code)=(stK code)∧((stR code)=(stR code)∧((d2g code)∧((stK code)=(stK code)∧((stR code)=(stR code)∧((stK code)=(stK code)∧((stR code)=(stR code)∧((stR code)=(stR code)∧((dgG code (Sr.mk (0:Int) (0:Int)))=(a2G code)∧((a0a.mk ((stX code).kind) ((stX code).num) (a0b.mk ((stX code).cond.kind) ((stX code).cond.num) ((stX code).cond.kids)) ((stX code).kids))=(siP code)∧((stK code)=(siK code)∧(stR code)=(siR code))))))))))))))))
theorem f6e(code:List Int):awp (a2o [b9b,b8e,a7v,a6z,a1x,a1l] [a2g,a1l] [] [23,28,30,31,36,38,39,41] [] [] [55] [a7w,a7x,b0x,b3g,a1a,a1z]) (a0i b1u) (d9l code) 0 (a1h (a2o [b9b,b8e,a7v,a6z,a1x,a1l] [a2g,a1l] [] [23,28,30,31,36,38,39,41] [] [] [55] [a7w,a7x,b0x,b3g,a1a,a1z]) b1u fun r=>a1e r [⟨(.st .sig),a2G code⟩,⟨(.st .prog),siP code⟩,⟨(.slice (.int .i64)),siK code⟩,⟨(.int .i64),siR code⟩]) (a0r b1u [.val ⟨(.slice (.int .u8)),code⟩]) =
 ((a0s code (Sr.mk (0:Int) (0:Int)) 900000000∧((a0s code (dgN code (Sr.mk (0:Int) (0:Int))) 999999000∧(14:Int)≤1000000)∧(a0d ((1:Int)+(pk code (dgN code (Sr.mk (0:Int) (0:Int))) (14:Int)))∧((a0s code (pkN code (dgN code (Sr.mk (0:Int) (0:Int))) (14:Int)) 860000000∧a1y (dgG code (Sr.mk (0:Int) (0:Int)))=true)∧((∃ u1:Unit,(True∧((True∧(True∧(True∧((0:Int)=(0:Int)∧(True∧(True∧(((1:Int)+(pk code (dgN code (Sr.mk (0:Int) (0:Int))) (14:Int)))=(stR code)∧(True∧(True∧True)))))))))∧((code=code∧(((ftN code (dgG code (Sr.mk (0:Int) (0:Int))) (pkN code (dgN code (Sr.mk (0:Int) (0:Int))) (14:Int)) ((1:Int)+(pk code (dgN code (Sr.mk (0:Int) (0:Int))) (14:Int)))).pos)=((stC code).pos)∧(((ftN code (dgG code (Sr.mk (0:Int) (0:Int))) (pkN code (dgN code (Sr.mk (0:Int) (0:Int))) (14:Int)) ((1:Int)+(pk code (dgN code (Sr.mk (0:Int) (0:Int))) (14:Int)))).seed)=((stC code).seed)∧True)))∧(((ftE code (dgG code (Sr.mk (0:Int) (0:Int))) (pkN code (dgN code (Sr.mk (0:Int) (0:Int))) (14:Int)) ((1:Int)+(pk code (dgN code (Sr.mk (0:Int) (0:Int))) (14:Int)))).kind=((stP code).kind)∧((ftE code (dgG code (Sr.mk (0:Int) (0:Int))) (pkN code (dgN code (Sr.mk (0:Int) (0:Int))) (14:Int)) ((1:Int)+(pk code (dgN code (Sr.mk (0:Int) (0:Int))) (14:Int)))).num=((stP code).num)∧((ftE code (dgG code (Sr.mk (0:Int) (0:Int))) (pkN code (dgN code (Sr.mk (0:Int) (0:Int))) (14:Int)) ((1:Int)+(pk code (dgN code (Sr.mk (0:Int) (0:Int))) (14:Int)))).cond.kind=((stP code).cond.kind)∧((ftE code (dgG code (Sr.mk (0:Int) (0:Int))) (pkN code (dgN code (Sr.mk (0:Int) (0:Int))) (14:Int)) ((1:Int)+(pk code (dgN code (Sr.mk (0:Int) (0:Int))) (14:Int)))).cond.num=((stP code).cond.num)∧((ftE code (dgG code (Sr.mk (0:Int) (0:Int))) (pkN code (dgN code (Sr.mk (0:Int) (0:Int))) (14:Int)) ((1:Int)+(pk code (dgN code (Sr.mk (0:Int) (0:Int))) (14:Int)))).cond.kids=((stP code).cond.kids)∧((ftE code (dgG code (Sr.mk (0:Int) (0:Int))) (pkN code (dgN code (Sr.mk (0:Int) (0:Int))) (14:Int)) ((1:Int)+(pk code (dgN code (Sr.mk (0:Int) (0:Int))) (14:Int)))).kids=((stP code).kids)∧True))))))∧([]=([]:List Int)∧(b2q code)))))))∧(∀ u1:Unit,(True →
 (((a0s code (stC code) 999999000∧(2:Int)≤1000000)∧(((a2t code (stC code) (2:Int))=true →
 (((13:Nat)=13∧(0:Nat)=0)∧((a5h code)∧((d2d code)∧(((a0s code (pkN code (stC code) (2:Int)) 890000000∧a1y (dgG code (Sr.mk (0:Int) (0:Int)))=true)∧0≤(3:Int)∧(3:Int)≤1000)∧((d2d code)∧((a0e (a0g ((pgG code (dgG code (Sr.mk (0:Int) (0:Int))).tests (dgG code (Sr.mk (0:Int) (0:Int))).actions 5 (pkN code (stC code) (2:Int)) (3:Int)).p))≤1048576∧a0e (a0a.mk ((stP code).kind) ((stP code).num) (a0b.mk ((stP code).cond.kind) ((stP code).cond.num) ((stP code).cond.kids)) ((stP code).kids))≤1048576)∧(∃ u2:Unit,(True∧((True∧(True∧(True∧((0:Int)=(0:Int)∧(True∧(True∧((stR code)=(stR code)∧(True∧(True∧True)))))))))∧((code=code∧(((pgG code (dgG code (Sr.mk (0:Int) (0:Int))).tests (dgG code (Sr.mk (0:Int) (0:Int))).actions 5 (pkN code (stC code) (2:Int)) (3:Int)).s.pos)=((stE code).pos)∧(((pgG code (dgG code (Sr.mk (0:Int) (0:Int))).tests (dgG code (Sr.mk (0:Int) (0:Int))).actions 5 (pkN code (stC code) (2:Int)) (3:Int)).s.seed)=((stE code).seed)∧True)))∧(((a0a.mk 5 0 zE [(a0g ((pgG code (dgG code (Sr.mk (0:Int) (0:Int))).tests (dgG code (Sr.mk (0:Int) (0:Int))).actions 5 (pkN code (stC code) (2:Int)) (3:Int)).p)),(a0a.mk ((stP code).kind) ((stP code).num) (a0b.mk ((stP code).cond.kind) ((stP code).cond.num) ((stP code).cond.kids)) ((stP code).kids))]).kind=((stQ code).kind)∧((a0a.mk 5 0 zE [(a0g ((pgG code (dgG code (Sr.mk (0:Int) (0:Int))).tests (dgG code (Sr.mk (0:Int) (0:Int))).actions 5 (pkN code (stC code) (2:Int)) (3:Int)).p)),(a0a.mk ((stP code).kind) ((stP code).num) (a0b.mk ((stP code).cond.kind) ((stP code).cond.num) ((stP code).cond.kids)) ((stP code).kids))]).num=((stQ code).num)∧((a0a.mk 5 0 zE [(a0g ((pgG code (dgG code (Sr.mk (0:Int) (0:Int))).tests (dgG code (Sr.mk (0:Int) (0:Int))).actions 5 (pkN code (stC code) (2:Int)) (3:Int)).p)),(a0a.mk ((stP code).kind) ((stP code).num) (a0b.mk ((stP code).cond.kind) ((stP code).cond.num) ((stP code).cond.kids)) ((stP code).kids))]).cond.kind=((stQ code).cond.kind)∧((a0a.mk 5 0 zE [(a0g ((pgG code (dgG code (Sr.mk (0:Int) (0:Int))).tests (dgG code (Sr.mk (0:Int) (0:Int))).actions 5 (pkN code (stC code) (2:Int)) (3:Int)).p)),(a0a.mk ((stP code).kind) ((stP code).num) (a0b.mk ((stP code).cond.kind) ((stP code).cond.num) ((stP code).cond.kids)) ((stP code).kids))]).cond.num=((stQ code).cond.num)∧((a0a.mk 5 0 zE [(a0g ((pgG code (dgG code (Sr.mk (0:Int) (0:Int))).tests (dgG code (Sr.mk (0:Int) (0:Int))).actions 5 (pkN code (stC code) (2:Int)) (3:Int)).p)),(a0a.mk ((stP code).kind) ((stP code).num) (a0b.mk ((stP code).cond.kind) ((stP code).cond.num) ((stP code).cond.kids)) ((stP code).kids))]).cond.kids=((stQ code).cond.kids)∧((a0a.mk 5 0 zE [(a0g ((pgG code (dgG code (Sr.mk (0:Int) (0:Int))).tests (dgG code (Sr.mk (0:Int) (0:Int))).actions 5 (pkN code (stC code) (2:Int)) (3:Int)).p)),(a0a.mk ((stP code).kind) ((stP code).num) (a0b.mk ((stP code).cond.kind) ((stP code).cond.num) ((stP code).cond.kids)) ((stP code).kids))]).kids=((stQ code).kids)∧True))))))∧(([(1:Int)])=(stJ code)∧(b2q code))))))))))))))∧((a2t code (stC code) (2:Int))=false →
 (∃ u2:Unit,(True∧((True∧(True∧(True∧((0:Int)=(0:Int)∧(True∧(True∧((stR code)=(stR code)∧(True∧(True∧True)))))))))∧((code=code∧(((pkN code (stC code) (2:Int)).pos)=((stE code).pos)∧(((pkN code (stC code) (2:Int)).seed)=((stE code).seed)∧True)))∧((((stP code).kind)=((stQ code).kind)∧(((stP code).num)=((stQ code).num)∧(((stP code).cond.kind)=((stQ code).cond.kind)∧(((stP code).cond.num)=((stQ code).cond.num)∧(((stP code).cond.kids)=((stQ code).cond.kids)∧(((stP code).kids)=((stQ code).kids)∧True))))))∧(([]:List Int)=(stJ code)∧(b2q code))))))))))∧(∀ u2:Unit,(True →
 (((a0s code (stE code) 999999000∧(4:Int)≤1000000)∧(((a2t code (stE code) (4:Int))=true →
 (((13:Nat)=13∧(0:Nat)=0)∧((a5h code)∧((d2e code)∧((a0s code (pkN code (stE code) (4:Int)) 960000000∧a1y (dgG code (Sr.mk (0:Int) (0:Int)))=true)∧((d2e code)∧((a0q (a0w (cdE code (dgG code (Sr.mk (0:Int) (0:Int))).tests (dgG code (Sr.mk (0:Int) (0:Int))).actions (pkN code (stE code) (4:Int))))≤1048576∧a0e (a0a.mk ((stQ code).kind) ((stQ code).num) (a0b.mk ((stQ code).cond.kind) ((stQ code).cond.num) ((stQ code).cond.kids)) ((stQ code).kids))≤1048576)∧(a2p (([(0:Int)]).length+(stJ code).length) 8∧(∃ u3:Unit,(True∧((True∧(True∧(True∧((0:Int)=(0:Int)∧(True∧((stR code)=(stR code)∧(True∧((([(0:Int)])++(stJ code))=(stK code)∧True))))))))∧((code=code∧(((cdN code (dgG code (Sr.mk (0:Int) (0:Int))).tests (dgG code (Sr.mk (0:Int) (0:Int))).actions (pkN code (stE code) (4:Int))).pos)=((stG code).pos)∧(((cdN code (dgG code (Sr.mk (0:Int) (0:Int))).tests (dgG code (Sr.mk (0:Int) (0:Int))).actions (pkN code (stE code) (4:Int))).seed)=((stG code).seed)∧True)))∧(((a0a.mk 7 0 (a0w (cdE code (dgG code (Sr.mk (0:Int) (0:Int))).tests (dgG code (Sr.mk (0:Int) (0:Int))).actions (pkN code (stE code) (4:Int)))) [(a0a.mk ((stQ code).kind) ((stQ code).num) (a0b.mk ((stQ code).cond.kind) ((stQ code).cond.num) ((stQ code).cond.kids)) ((stQ code).kids))]).kind=((stX code).kind)∧((a0a.mk 7 0 (a0w (cdE code (dgG code (Sr.mk (0:Int) (0:Int))).tests (dgG code (Sr.mk (0:Int) (0:Int))).actions (pkN code (stE code) (4:Int)))) [(a0a.mk ((stQ code).kind) ((stQ code).num) (a0b.mk ((stQ code).cond.kind) ((stQ code).cond.num) ((stQ code).cond.kids)) ((stQ code).kids))]).num=((stX code).num)∧((a0a.mk 7 0 (a0w (cdE code (dgG code (Sr.mk (0:Int) (0:Int))).tests (dgG code (Sr.mk (0:Int) (0:Int))).actions (pkN code (stE code) (4:Int)))) [(a0a.mk ((stQ code).kind) ((stQ code).num) (a0b.mk ((stQ code).cond.kind) ((stQ code).cond.num) ((stQ code).cond.kids)) ((stQ code).kids))]).cond.kind=((stX code).cond.kind)∧((a0a.mk 7 0 (a0w (cdE code (dgG code (Sr.mk (0:Int) (0:Int))).tests (dgG code (Sr.mk (0:Int) (0:Int))).actions (pkN code (stE code) (4:Int)))) [(a0a.mk ((stQ code).kind) ((stQ code).num) (a0b.mk ((stQ code).cond.kind) ((stQ code).cond.num) ((stQ code).cond.kids)) ((stQ code).kids))]).cond.num=((stX code).cond.num)∧((a0a.mk 7 0 (a0w (cdE code (dgG code (Sr.mk (0:Int) (0:Int))).tests (dgG code (Sr.mk (0:Int) (0:Int))).actions (pkN code (stE code) (4:Int)))) [(a0a.mk ((stQ code).kind) ((stQ code).num) (a0b.mk ((stQ code).cond.kind) ((stQ code).cond.num) ((stQ code).cond.kids)) ((stQ code).kids))]).cond.kids=((stX code).cond.kids)∧((a0a.mk 7 0 (a0w (cdE code (dgG code (Sr.mk (0:Int) (0:Int))).tests (dgG code (Sr.mk (0:Int) (0:Int))).actions (pkN code (stE code) (4:Int)))) [(a0a.mk ((stQ code).kind) ((stQ code).num) (a0b.mk ((stQ code).cond.kind) ((stQ code).cond.num) ((stQ code).cond.kids)) ((stQ code).kids))]).kids=((stX code).kids)∧True))))))∧(b2q code))))))))))))))∧((a2t code (stE code) (4:Int))=false →
 (∃ u3:Unit,(True∧((True∧(True∧(True∧((0:Int)=(0:Int)∧(True∧((stR code)=(stR code)∧(True∧((stJ code)=(stK code)∧True))))))))∧((code=code∧(((pkN code (stE code) (4:Int)).pos)=((stG code).pos)∧(((pkN code (stE code) (4:Int)).seed)=((stG code).seed)∧True)))∧((((stQ code).kind)=((stX code).kind)∧(((stQ code).num)=((stX code).num)∧(((stQ code).cond.kind)=((stX code).cond.kind)∧(((stQ code).cond.num)=((stX code).cond.num)∧(((stQ code).cond.kids)=((stX code).cond.kids)∧(((stQ code).kids)=((stX code).kids)∧True))))))∧(b2q code)))))))))∧(∀ u3:Unit,(True →
 (prG (a0a.mk ((stX code).kind) ((stX code).num) (a0b.mk ((stX code).cond.kind) ((stX code).cond.num) ((stX code).cond.kids)) ((stX code).kids))∧(((!(okP (dgG code (Sr.mk (0:Int) (0:Int))) (a0a.mk ((stX code).kind) ((stX code).num) (a0b.mk ((stX code).cond.kind) ((stX code).cond.num) ((stX code).cond.kids)) ((stX code).kids))))=false →
 (((!(okE (dgG code (Sr.mk (0:Int) (0:Int))) (a0w (peE (a0a.mk ((stX code).kind) ((stX code).num) (a0b.mk ((stX code).cond.kind) ((stX code).cond.num) ((stX code).cond.kids)) ((stX code).kids))))))=true →
 (d2f code))∧((!(okE (dgG code (Sr.mk (0:Int) (0:Int))) (a0w (peE (a0a.mk ((stX code).kind) ((stX code).num) (a0b.mk ((stX code).cond.kind) ((stX code).cond.num) ((stX code).cond.kids)) ((stX code).kids))))))=false →
 (d2h code))))∧((!(okP (dgG code (Sr.mk (0:Int) (0:Int))) (a0a.mk ((stX code).kind) ((stX code).num) (a0b.mk ((stX code).cond.kind) ((stX code).cond.num) ((stX code).cond.kids)) ((stX code).kids))))=(!false) →
 ((true=true →
 (d2f code))∧(true=false →
 (d2h code)))))))))))))))))))):=by kernel_rfl
theorem f5j(hE:a0p [b9b,b8e,a7v,a6z,a1x,a1l])(hO:a4f [a2g,a1l])(hM:a4x [])(hS:a4p [a7w,a7x,b0x,b3g,a1a,a1z]):Ctr.Good b6p:=by
 refine⟨a0j d4l rfl (by decide),?_⟩
 show ∀ (code:List Int),(a6o code∧code.length≤1000000)→a1f prog c6y [.val ⟨(.slice (.int .u8)),code⟩] (·=[⟨(.st .sig),a2G code⟩,⟨(.st .prog),siP code⟩,⟨(.slice (.int .i64)),siK code⟩,⟨(.int .i64),siR code⟩])
 intro code hp
 refine f2f (own:=[23,28,30,31,36,38,39,41]) (wr:=[]) (cl:=[]) (ro:=[55]) hE hO hM hS d4l e7t (d9l code) ?_
 rewrite [f6e code]
 have F:=h1h code hp.1 hp.2
 refine⟨?_,⟨?_,⟨?_,⟨?_,⟨⟨(),⟨?_,⟨⟨trivial,⟨trivial,⟨trivial,⟨rfl,⟨trivial,⟨trivial,⟨?_,⟨trivial,⟨trivial,trivial⟩⟩⟩⟩⟩⟩⟩⟩⟩,⟨⟨rfl,⟨?_,⟨?_,trivial⟩⟩⟩,⟨⟨?_,⟨?_,⟨?_,⟨?_,⟨?_,⟨?_,trivial⟩⟩⟩⟩⟩⟩,⟨?_,⟨⟨rfl,⟨rfl,trivial⟩⟩,⟨⟨rfl,⟨rfl,⟨rfl,⟨rfl,⟨trivial,⟨trivial,trivial⟩⟩⟩⟩⟩⟩,⟨⟨rfl,⟨rfl,trivial⟩⟩,trivial⟩⟩⟩⟩⟩⟩⟩⟩⟩,fun u1=>fun a0=>⟨⟨?_,⟨fun a1=>⟨⟨?_,?_⟩,⟨⟨rfl,⟨rfl,?_⟩⟩,⟨⟨rfl,⟨rfl,⟨rfl,⟨rfl,⟨rfl,⟨rfl,?_⟩⟩⟩⟩⟩⟩,⟨?_,⟨⟨rfl,⟨rfl,⟨rfl,⟨rfl,⟨rfl,⟨rfl,?_⟩⟩⟩⟩⟩⟩,⟨?_,⟨(),⟨?_,⟨⟨trivial,⟨trivial,⟨trivial,⟨rfl,⟨trivial,⟨trivial,⟨rfl,⟨trivial,⟨trivial,trivial⟩⟩⟩⟩⟩⟩⟩⟩⟩,⟨⟨rfl,⟨?_,⟨?_,trivial⟩⟩⟩,⟨⟨?_,⟨?_,⟨?_,⟨?_,⟨?_,⟨?_,trivial⟩⟩⟩⟩⟩⟩,⟨?_,⟨⟨rfl,⟨rfl,trivial⟩⟩,⟨⟨rfl,⟨rfl,⟨rfl,⟨rfl,⟨trivial,⟨trivial,trivial⟩⟩⟩⟩⟩⟩,⟨⟨rfl,⟨rfl,trivial⟩⟩,trivial⟩⟩⟩⟩⟩⟩⟩⟩⟩⟩⟩⟩⟩⟩⟩,fun a1=>⟨(),⟨?_,⟨⟨trivial,⟨trivial,⟨trivial,⟨rfl,⟨trivial,⟨trivial,⟨rfl,⟨trivial,⟨trivial,trivial⟩⟩⟩⟩⟩⟩⟩⟩⟩,⟨⟨rfl,⟨?_,⟨?_,trivial⟩⟩⟩,⟨⟨?_,⟨?_,⟨?_,⟨?_,⟨?_,⟨?_,trivial⟩⟩⟩⟩⟩⟩,⟨?_,⟨⟨rfl,⟨rfl,trivial⟩⟩,⟨⟨rfl,⟨rfl,⟨rfl,⟨rfl,⟨trivial,⟨trivial,trivial⟩⟩⟩⟩⟩⟩,⟨⟨rfl,⟨rfl,trivial⟩⟩,trivial⟩⟩⟩⟩⟩⟩⟩⟩⟩⟩⟩,fun u2=>fun a1=>⟨⟨?_,⟨fun a2=>⟨⟨?_,?_⟩,⟨⟨rfl,⟨rfl,?_⟩⟩,⟨⟨rfl,⟨rfl,⟨rfl,⟨rfl,⟨rfl,⟨rfl,?_⟩⟩⟩⟩⟩⟩,⟨?_,⟨⟨rfl,⟨rfl,⟨rfl,⟨rfl,⟨rfl,⟨rfl,?_⟩⟩⟩⟩⟩⟩,⟨?_,⟨?_,⟨(),⟨?_,⟨⟨trivial,⟨trivial,⟨trivial,⟨rfl,⟨trivial,⟨rfl,⟨trivial,⟨?_,trivial⟩⟩⟩⟩⟩⟩⟩⟩,⟨⟨rfl,⟨?_,⟨?_,trivial⟩⟩⟩,⟨⟨?_,⟨?_,⟨?_,⟨?_,⟨?_,⟨?_,trivial⟩⟩⟩⟩⟩⟩,⟨⟨rfl,⟨rfl,trivial⟩⟩,⟨⟨rfl,⟨rfl,⟨rfl,⟨rfl,⟨trivial,⟨trivial,trivial⟩⟩⟩⟩⟩⟩,⟨⟨rfl,⟨rfl,trivial⟩⟩,trivial⟩⟩⟩⟩⟩⟩⟩⟩⟩⟩⟩⟩⟩⟩⟩,fun a2=>⟨(),⟨?_,⟨⟨trivial,⟨trivial,⟨trivial,⟨rfl,⟨trivial,⟨rfl,⟨trivial,⟨?_,trivial⟩⟩⟩⟩⟩⟩⟩⟩,⟨⟨rfl,⟨?_,⟨?_,trivial⟩⟩⟩,⟨⟨?_,⟨?_,⟨?_,⟨?_,⟨?_,⟨?_,trivial⟩⟩⟩⟩⟩⟩,⟨⟨rfl,⟨rfl,trivial⟩⟩,⟨⟨rfl,⟨rfl,⟨rfl,⟨rfl,⟨trivial,⟨trivial,trivial⟩⟩⟩⟩⟩⟩,⟨⟨rfl,⟨rfl,trivial⟩⟩,trivial⟩⟩⟩⟩⟩⟩⟩⟩⟩⟩,fun u3=>fun a2=>⟨?_,⟨fun a3=>⟨fun a4=>⟨⟨rfl,⟨rfl,?_⟩⟩,⟨⟨rfl,⟨rfl,?_⟩⟩,⟨⟨rfl,⟨rfl,?_⟩⟩,⟨?_,⟨⟨rfl,⟨rfl,?_⟩⟩,⟨?_,⟨?_,⟨?_,?_⟩⟩⟩⟩⟩⟩⟩⟩,fun a4=>fun a5=>fun a6=>⟨⟨rfl,⟨rfl,?_⟩⟩,⟨⟨rfl,⟨rfl,⟨rfl,⟨rfl,⟨rfl,⟨rfl,?_⟩⟩⟩⟩⟩⟩,⟨rfl,⟨rfl,⟨⟨rfl,⟨rfl,⟨rfl,⟨rfl,⟨rfl,⟨rfl,?_⟩⟩⟩⟩⟩⟩,⟨rfl,⟨rfl,⟨rfl,⟨rfl,⟨rfl,⟨?_,⟨?_,⟨?_,?_⟩⟩⟩⟩⟩⟩⟩⟩⟩⟩⟩⟩⟩⟩,fun a3=>⟨fun a4=>⟨⟨rfl,⟨rfl,?_⟩⟩,⟨⟨rfl,⟨rfl,?_⟩⟩,⟨⟨rfl,⟨rfl,?_⟩⟩,⟨?_,⟨⟨rfl,⟨rfl,?_⟩⟩,⟨?_,⟨?_,⟨?_,?_⟩⟩⟩⟩⟩⟩⟩⟩,fun a4=>fun a5=>fun a6=>⟨⟨rfl,⟨rfl,?_⟩⟩,⟨⟨rfl,⟨rfl,⟨rfl,⟨rfl,⟨rfl,⟨rfl,?_⟩⟩⟩⟩⟩⟩,⟨rfl,⟨rfl,⟨⟨rfl,⟨rfl,⟨rfl,⟨rfl,⟨rfl,⟨rfl,?_⟩⟩⟩⟩⟩⟩,⟨rfl,⟨rfl,⟨rfl,⟨rfl,⟨rfl,⟨?_,⟨?_,⟨?_,?_⟩⟩⟩⟩⟩⟩⟩⟩⟩⟩⟩⟩⟩⟩⟩⟩⟩⟩⟩⟩⟩⟩⟩
 all_goals try and_intros
 all_goals try simp only[a0b.eta,a0a.eta,a2b,a2d] at *
 all_goals (try simp only[c8d,a0b.eta,a0a.eta,decide_eq_true_eq,decide_eq_false_iff_not,Bool.not_true,Bool.not_false,Bool.not_eq_true',Bool.not_eq_false'] at *);first|rfl|trivial|omega|exact congrArg a0a.kind (c8r code (by assumption)).1|exact congrArg a0a.num (c8r code (by assumption)).1|exact congrArg (fun p:a0a=>p.cond.kind) (c8r code (by assumption)).1|exact congrArg (fun p:a0a=>p.cond.num) (c8r code (by assumption)).1|exact congrArg (fun p:a0a=>p.cond.kids) (c8r code (by assumption)).1|exact congrArg a0a.kids (c8r code (by assumption)).1|exact congrArg Sr.pos (c8r code (by assumption)).2.1|exact congrArg Sr.seed (c8r code (by assumption)).2.1|exact (c8r code (by assumption)).2.2|exact congrArg a0a.kind (c8q code (by assumption)).1|exact congrArg a0a.num (c8q code (by assumption)).1|exact congrArg (fun p:a0a=>p.cond.kind) (c8q code (by assumption)).1|exact congrArg (fun p:a0a=>p.cond.num) (c8q code (by assumption)).1|exact congrArg (fun p:a0a=>p.cond.kids) (c8q code (by assumption)).1|exact congrArg a0a.kids (c8q code (by assumption)).1|exact congrArg Sr.pos (c8q code (by assumption)).2.1|exact congrArg Sr.seed (c8q code (by assumption)).2.1|exact (c8q code (by assumption)).2.2|exact congrArg a0a.kind (c8t code (by assumption)).1|exact congrArg a0a.num (c8t code (by assumption)).1|exact congrArg (fun p:a0a=>p.cond.kind) (c8t code (by assumption)).1|exact congrArg (fun p:a0a=>p.cond.num) (c8t code (by assumption)).1|exact congrArg (fun p:a0a=>p.cond.kids) (c8t code (by assumption)).1|exact congrArg a0a.kids (c8t code (by assumption)).1|exact congrArg Sr.pos (c8t code (by assumption)).2.1|exact congrArg Sr.seed (c8t code (by assumption)).2.1|exact (c8t code (by assumption)).2.2|exact congrArg a0a.kind (c8s code (by assumption)).1|exact congrArg a0a.num (c8s code (by assumption)).1|exact congrArg (fun p:a0a=>p.cond.kind) (c8s code (by assumption)).1|exact congrArg (fun p:a0a=>p.cond.num) (c8s code (by assumption)).1|exact congrArg (fun p:a0a=>p.cond.kids) (c8s code (by assumption)).1|exact congrArg a0a.kids (c8s code (by assumption)).1|exact congrArg Sr.pos (c8s code (by assumption)).2.1|exact congrArg Sr.seed (c8s code (by assumption)).2.1|exact (c8s code (by assumption)).2.2|exact (g3p code (by assumption) (by assumption)).1|exact (g3p code (by assumption) (by assumption)).2.1|exact (g3p code (by assumption) (by assumption)).2.2|exact (e4m code (.inl (by assumption))).1|exact (e4m code (.inl (by assumption))).2.1|exact (e4m code (.inl (by assumption))).2.2|exact (e4m code (.inr (by assumption))).1|exact (e4m code (.inr (by assumption))).2.1|exact (e4m code (.inr (by assumption))).2.2|exact F.s0.mono (by decide)|exact F.s1.mono (by decide)|exact F.s2.mono (by decide)|exact F.s3.mono (by decide)|exact F.s4.mono (by decide)|exact F.s5.mono (by decide)|exact F.s6.mono (by decide)|exact F.g|exact F.pe|exact Nat.le_trans F.zp (by decide)|exact Nat.le_trans F.zh (by decide)|exact Nat.le_trans F.zq (by decide)|exact Nat.le_trans F.zc (by decide)|exact g3o F.r|exact (g3o F.r).1|exact (g3o F.r).2|(have:=F.k;try simp only[a2p,List.length_cons,List.length_nil,decide_eq_true_eq] at *;first|omega|(trace_state;done))
theorem e8q:Ctr.Good b6p:=f5j ⟨e5o,d1x,d1w,d0b,e5s,e2m,trivial⟩ ⟨a6u,a4m,trivial⟩ trivial ⟨d6o,d6p,e0n,e3q,a3u,a6d,trivial⟩
end
end Go.Proofs.Ytlaoejdeanljgaa

set_option linter.unusedVariables false
set_option linter.unusedSimpArgs false
set_option linter.unusedSectionVars false
set_option maxRecDepth 4000
set_option maxHeartbeats 4000000
namespace Go.Proofs.Ytlaoejdeanljgaa
noncomputable section
def bkV(ru:Int):Int:=bif decide (ru=1) then 2 else bif decide (ru=2) then 1 else bif decide (ru=5) then 6 else bif decide (ru=6) then 5 else bif decide (ru=8) then 9 else bif decide (ru=9) then 8 else 0
theorem g9b(b:a0a):∀ (ks:List Int) (p:a0a),atO p ks=true→atO (atW b p ks) ks=true∧a2a (atW b p ks) ks=b∧∀ c,atW c (atW b p ks) ks=atW c p ks
 | [],_,_=>⟨rfl,rfl,fun _=>rfl⟩
 | k::ks,p,h=>by
  simp only[atO,Bool.and_eq_true,decide_eq_true_eq] at h
  obtain⟨⟨h1,h2⟩,h3⟩:=h
  have ih:=g9b b ks (p.kids.getD k.toNat zP) h3
  have e:(p.kids.set k.toNat (atW b (p.kids.getD k.toNat zP) ks)).getD k.toNat zP=atW b (p.kids.getD k.toNat zP) ks:=by
   rw[List.getD_eq_getElem?_getD,List.getElem?_set_self (by omega)];rfl
  refine⟨?_,?_,fun c=>?_⟩
  ·simp only[atW,atO,e,List.length_set,Bool.and_eq_true,decide_eq_true_eq]
   exact⟨⟨h1,h2⟩,ih.1⟩
  ·simp only[atW,a2a,e];exact ih.2.1
  ·simp only[atW,e,ih.2.2 c,List.set_set]
theorem g7p:∀ (ks:List Int) (p:a0a),atO p ks=true→atW (a2a p ks) p ks=p
 | [],_,_=>rfl
 | k::ks,p,h=>by
  simp only[atO,Bool.and_eq_true,decide_eq_true_eq] at h
  have ih:=g7p ks (p.kids.getD k.toNat zP) h.2
  have e:p.kids.set k.toNat (p.kids.getD k.toNat zP)=p.kids:=by
   rw[List.getD_eq_getElem?_getD,List.getElem?_eq_getElem (by omega)]
   exact List.set_getElem_self _
  simp only[a2a,atW,ih,e,a0a.eta]
theorem g1u(gg:a0l):∀ (ks:List Int) (p:a0a),a1d gg p=true→atO p ks=true→a1d gg (a2a p ks)=true
 | [],_,h,_=>h
 | k::ks,p,h,ho=>by
  simp only[atO,Bool.and_eq_true,decide_eq_true_eq] at ho
  rw[b8s,Bool.and_eq_true] at h
  exact g1u gg ks _ (d6y (a1d gg) _ p.kids _ (by omega) h.2) ho.2
theorem d8f(gg:a0l)(p:a0a)(h:a1d gg p=true):(p.kind=5→∃ a b,p=a3k a b∧a1d gg a=true∧a1d gg b=true)∧(p.kind=6→∃ c a b,p=mIf c a b∧a1d gg a=true∧a1d gg b=true)∧(p.kind=7→∃ c a,p=mWh c a∧a1d gg a=true)∧(p.kind=1→p=mSk):=by
 rw[b8s,c0w] at h
 simp only[Bool.and_eq_true,decide_eq_true_eq] at h
 obtain⟨⟨⟨h1,h2⟩,h3⟩,h4⟩:=h
 cases p with
 | mk k n c ks =>
  refine⟨fun q=>?_,fun q=>?_,fun q=>?_,fun q=>?_⟩<;>simp only at q h1 h4<;>subst q<;>simp[a1r] at h1<;>simp[a8u] at h2
  ·match ks,h1 with
   | [a,b],_ =>
    have e:c=zE:=(d3e _).1 (by simpa [a8t,a2s] using h3)
    simp only[a2r,Bool.and_eq_true] at h4
    exact⟨a,b,by rw[e,h2],h4.1,h4.2.1⟩
  ·match ks,h1 with
   | [a,b],_ =>
    simp only[a2r,Bool.and_eq_true] at h4
    exact⟨c,a,b,by rw[h2],h4.1,h4.2.1⟩
  ·match ks,h1 with
   | [a],_ =>
    simp only[a2r,Bool.and_eq_true] at h4
    exact⟨c,a,by rw[h2],h4.1⟩
  ·match ks,h1 with
   | [],_ =>
    have e:c=zE:=(d3e _).1 (by simpa [a8t,a2s] using h3)
    rw[e,h2]
theorem c2r{α:Type}(x:α):eqB x x=true:=b1j.2 rfl
theorem g4n(ru:Int)(hb:bkV ru≠0):ru=1∨ru=2∨ru=5∨ru=6∨ru=8∨ru=9:=by
 by_cases e1:ru=1
 ·exact .inl e1
 by_cases e2:ru=2
 ·exact .inr (.inl e2)
 by_cases e3:ru=5
 ·exact .inr (.inr (.inl e3))
 by_cases e4:ru=6
 ·exact .inr (.inr (.inr (.inl e4)))
 by_cases e5:ru=8
 ·exact .inr (.inr (.inr (.inr (.inl e5))))
 by_cases e6:ru=9
 ·exact .inr (.inr (.inr (.inr (.inr e6))))
 ·exact absurd (by simp[bkV,e1,e2,e3,e4,e5,e6]) hb
theorem h0a(ru:Int)(hb:bkV ru≠0):1≤bkV ru∧bkV ru≤14:=by
 rcases g4n ru hb with rfl|rfl|rfl|rfl|rfl|rfl<;>decide
theorem g8m(gg:a0l)(p:a0a)(ru:Int)(ht:a1d gg p=true)(h:rwO p ru=true)(hb:bkV ru≠0):rwO (rwV p ru) (bkV ru)=true∧rwV (rwV p ru) (bkV ru)=p:=by
 have S:=d8f gg p ht
 have hr:=g4n ru hb
 clear hb
 have h':=h
 by_cases k7:p.kind=7
 ·obtain⟨c,a,rfl,ta⟩:=S.2.2.1 k7
  rcases hr with rfl|rfl|rfl|rfl|rfl|rfl<;>simp[rwO,wO] at h
  exact⟨by simp[rwO,rwV,wV,iO,bkV,a7c,c2r],by simp[rwV,wV,iV,bkV,a7c,c2r]⟩
 by_cases k6:p.kind=6
 ·obtain⟨c,a,b,rfl,ta,tb⟩:=S.2.1 k6
  rcases hr with rfl|rfl|rfl|rfl|rfl|rfl<;>simp[rwO,iO] at h
  ·simp only[a7c,Bool.and_eq_true,decide_eq_true_eq,b1j] at h
   obtain⟨q1,q2,q3,q4,q5⟩:=h
   obtain⟨u,v,rfl,tu,tv⟩:=(d8f gg a ta).1 q1
   have qb:=(d8f gg b tb).2.2.2 q2
   subst qb
   obtain⟨d,w,e,tw⟩:=(d8f gg v tv).2.2.1 q3
   subst e
   simp at q4 q5
   subst q4 q5
   exact⟨by simp[rwO,rwV,wO,iV,bkV,a7c,c2r],by simp[rwV,wV,iV,bkV,a7c,c2r]⟩
  ·simp only[a8b,Bool.and_eq_true,decide_eq_true_eq,b1j] at h
   obtain⟨q1,q2,q3⟩:=h
   obtain⟨u,v,rfl,tu,tv⟩:=(d8f gg a ta).1 q1
   obtain⟨u2,v2,rfl,tu2,tv2⟩:=(d8f gg b tb).1 q2
   simp at q3
   subst q3
   exact⟨by simp[rwO,rwV,sO,iV,bkV,a8b,c2r],by simp[rwV,sV,iV,bkV,a8b,c2r]⟩
 by_cases k5:p.kind=5
 ·obtain⟨a,b,rfl,ta,tb⟩:=S.1 k5
  rcases hr with rfl|rfl|rfl|rfl|rfl|rfl<;>simp[rwO,sO] at h
  ·obtain⟨u,v,rfl,tu,tv⟩:=(d8f gg a ta).1 h
   exact⟨by simp[rwO,rwV,sO,sV,bkV],by simp[rwV,sV,bkV]⟩
  ·obtain⟨u,v,rfl,tu,tv⟩:=(d8f gg b tb).1 h
   exact⟨by simp[rwO,rwV,sO,sV,bkV],by simp[rwV,sV,bkV]⟩
  ·obtain⟨c,u,v,rfl,tu,tv⟩:=(d8f gg a ta).2.1 h
   exact⟨by simp[rwO,rwV,iO,sV,bkV,a8b,c2r],by simp[rwV,iV,sV,bkV,a8b,c2r]⟩
 ·simp[rwO,k7,k6,k5] at h
theorem g0w(gg:a0l)(p:a0a)(ks:List Int)(ru:Int)(h:trC gg p ks ru=0)(hb:bkV ru≠0):trC gg (trV gg p ks ru) ks (bkV ru)=0∧trV gg (trV gg p ks ru) ks (bkV ru)=p:=by
 have hv:trV gg p ks ru=trA gg p ks ru:=by rw[trV,if_pos h]
 rw[hv]
 unfold trC at h
 split at h
 case isFalse=>cases h
 rename_i h1
 split at h
 case isFalse=>cases h
 rename_i h2
 split at h
 case isFalse=>cases h
 rename_i h3
 split at h
 case isFalse=>cases h
 rename_i h4
 have h1':=h1
 simp only[okP,Bool.and_eq_true] at h1'
 have ht:a1d gg p=true:=by
  have:=h1'.2
  simp only[isP,a9m,Bool.and_eq_true] at this
  exact this.1.1
 have hp:atP p ks=a2a p ks:=by rw[atP,h2.1];rfl
 have hn:=g1u gg ks p ht h2.1
 obtain⟨w1,w2,w3⟩:=g9b (rwV (atP p ks) ru) ks p h2.1
 have hq:atP (trA gg p ks ru) ks=rwV (atP p ks) ru:=by
  rw[trA,atP,w1];exact w2
 rw[←hp] at hn
 obtain⟨b1,b2⟩:=g8m gg (atP p ks) ru hn h3 hb
 have hA:trA gg (trA gg p ks ru) ks (bkV ru)=p:=by
  rw[trA,hq,b2]
  unfold trA
  rw[w3,hp]
  exact g7p ks p h2.1
 have hr:=h0a ru hb
 have hC:trC gg (trA gg p ks ru) ks (bkV ru)=0:=by
  unfold trC
  rw[if_pos (by simp only[okP,h1'.1,h4,Bool.and_self]),if_pos ⟨w1,hr⟩,hq,if_pos b1,hA,if_pos h1'.2]
 exact⟨hC,by rw[trV,if_pos hC,hA]⟩
theorem h0r(ru:Int)(h:ru≠1)(h2:ru≠2)(h3:ru≠5)(h4:ru≠6)(h5:ru≠8)(h6:ru≠9):bkV ru=0:=by
 simp[bkV,h,h2,h3,h4,h5,h6]
def b2v:Ctr:=⟨c3a,[.v (.st .prog), .v (.st .prog)],fun (x:a0a) (y:a0a)=>⟨(none,[⟨.bool,eqB x y⟩])⟩⟩
def d2s(x:a0a)(y:a0a):Nat→a0t:=fun _ => .none
theorem e9w(x:a0a)(y:a0a):awp (a0x [a3j] [] [] [2,3]) (a0i a8m) (d2s x y) 0 (a1h (a0x [a3j] [] [] [2,3]) a8m fun r=>a1e r [⟨.bool,eqB x y⟩]) (a0r a8m [.val ⟨(.st .prog),x⟩, .val ⟨(.st .prog),y⟩]) =
 ((eqB x y)=(eqB x y)):=by kernel_rfl
theorem e9f(hE:a0p [a3j]):Ctr.Good b2v:=by
 refine⟨a0j c9l rfl (by decide),?_⟩
 show ∀ (x:a0a) (y:a0a),True→a1f prog c3a [.val ⟨(.st .prog),x⟩, .val ⟨(.st .prog),y⟩] (·=[⟨.bool,eqB x y⟩])
 intro x y _
 refine a0z (wr:=[]) (cl:=[]) (ro:=[2,3]) hE c9l e1i (d2s x y) ?_
 rewrite [e9w x y]
 refine rfl
 all_goals try and_intros
 all_goals first|rfl|trivial|omega|(simp only[decide_eq_true_eq,decide_eq_false_iff_not,a0h,a0d,a2j,a4q,a4a,a2p] at *;omega)|(simp[a0h,a0d] at *;omega)|grind
theorem e2j:Ctr.Good b2v:=e9f ⟨b4d,trivial⟩
def b6o:Ctr:=⟨c6x,[.v (.slice (.int .u8)), .v (.slice (.int .u8))],fun (xs:List Int) (ys:List Int)=>⟨(none,[⟨.bool,decide (3000<xs.length)||decide (3000<ys.length)⟩])⟩⟩
def d9k(xs:List Int)(ys:List Int):Nat→a0t:=fun _ => .none
theorem f6d(xs:List Int)(ys:List Int):awp (a0x []) (a0i b1t) (d9k xs ys) 0 (a1h (a0x []) b1t fun r=>a1e r [⟨.bool,decide (3000<xs.length)||decide (3000<ys.length)⟩]) (a0r b1t [.val ⟨(.slice (.int .u8)),xs⟩, .val ⟨(.slice (.int .u8)),ys⟩]) =
 ((a0d ((xs.length:Int)) →
 (((decide ((3000:Int)<((xs.length:Int))))=false →
 (a0d ((ys.length:Int)) →
 (decide ((3000:Int)<((ys.length:Int))))=(decide (3000<xs.length)||decide (3000<ys.length))))∧((decide ((3000:Int)<((xs.length:Int))))=(!false) →
 true=(decide (3000<xs.length)||decide (3000<ys.length)))))):=by kernel_rfl
theorem f5i(hE:a0p []):Ctr.Good b6o:=by
 refine⟨a0j d4k rfl (by decide),?_⟩
 show ∀ (xs:List Int) (ys:List Int),True→a1f prog c6x [.val ⟨(.slice (.int .u8)),xs⟩, .val ⟨(.slice (.int .u8)),ys⟩] (·=[⟨.bool,decide (3000<xs.length)||decide (3000<ys.length)⟩])
 intro xs ys _
 refine a0z (wr:=[]) (cl:=[]) (ro:=[]) hE d4k e7s (d9k xs ys) ?_
 rewrite [f6d xs ys]
 refine fun a0=>⟨fun a1=>fun a2=>?_,fun a1=>?_⟩
 all_goals try and_intros
 all_goals first|rfl|trivial|omega|(simp only[decide_eq_true_eq,decide_eq_false_iff_not] at *;first|omega|grind)|grind
theorem e8p:Ctr.Good b6o:=f5i trivial
theorem e0a:Ctr.Good a6t:=d7u.plain
def d2i:Ctr:=⟨b7t,[.v (.slice (.int .u8)), .v (.slice (.int .u8))],fun (code:List Int) (more:List Int)=>⟨(some (a6o code),[⟨.bool,true⟩])⟩⟩
def d2r(code:List Int)(more:List Int):Nat→a0t:=(fun zb=>if Nat.beq zb 100003 then .mk (Unit) (fun u=>code.length≤3000) (fun u=>0) [] [1,2,3,16,17,18] (fun u=>[]) [0,4,5,6,7,8,9,10,11,12,13,14,15,19,20,21,22,23,24,25,26,27,28,29,30,31,32,33,34,35,36,37,38,39,40,41,42,43,44,45,46,47,48,49,50,51,52,53,54,55,56,57,58,59,60,61,62,63,64,65,66,67,68,69,70,71,72,73,74,75,76,77,78] (fun u=>[]) [] [] (fun u=>(fun zb=>if Nat.beq zb 100018 then .mk (Unit) (fun u=>code.length≤3000) (fun u=>0) [] [0,1,2,3,16,17,18,19,20,21,22,23,24,25,26,27,28,29,30,31,32,33,34,35,36,37,38] (fun u=>[(9, .imm ⟨(.int .i64),(bkV (siR code):Int)⟩)]) [4,5,6,7,8,9,10,11,12,13,14,15,39,40,41,42,43,44,45,46,47,48,49,50,51,52,53,54,55,56,57,58,59,60,61,62,63,64,65,66,67,68,69,70,71,72,73,74,75,76,77,78] (fun u=>[]) [] [] (fun u=>(fun zb=>if Nat.beq zb 100024 then .mk (Unit) (fun u=>trC (a2G code) (siP code) (siK code) (siR code)=0∧bkV (siR code)≠0) (fun u=>0) [] [0,1,2,3,8,10,11,13,16,17,18,19,20,21,22,23,24,25,26,27,28,29,30,31,32,33,34,35,36,37,38,39,40,41,42,43,44,45,46,47,48,49,50,51,52,53,54,55,56,57,58,59,60,61,62,63] (fun u=>[]) [4,5,6,7,9,12,14,15,64,65,66,67,68,69,70,71,72,73,74,75,76,77,78] (fun u=>[]) [] [] (fun u=>fun _ => .none) else .none)) else .none)) else .none)
abbrev a4g(code:List Int):Prop:=(((siP code).kind=(siP code).kind∧((siP code).num=(siP code).num∧((siP code).cond.kind=(siP code).cond.kind∧((siP code).cond.num=(siP code).cond.num∧((siP code).cond.kids=(siP code).cond.kids∧((siP code).kids=(siP code).kids∧True))))))∧(((a2G code).tests=(a2G code).tests∧((a2G code).actions=(a2G code).actions∧True))∧True))
abbrev c8a(code:List Int):Prop:=(∃ u3:Unit,((trC (a2G code) (siP code) (siK code) (siR code)=0∧bkV (siR code)≠0)∧((True∧(True∧((siK code)=(siK code)∧((bkV (siR code))=(bkV (siR code))∧(True∧True)))))∧(((trV (a2G code) (a0g (siP code)) (siK code) (siR code)).kind=(trV (a2G code) (a0g (siP code)) (siK code) (siR code)).kind∧((trV (a2G code) (a0g (siP code)) (siK code) (siR code)).num=(trV (a2G code) (a0g (siP code)) (siK code) (siR code)).num∧((trV (a2G code) (a0g (siP code)) (siK code) (siR code)).cond.kind=(trV (a2G code) (a0g (siP code)) (siK code) (siR code)).cond.kind∧((trV (a2G code) (a0g (siP code)) (siK code) (siR code)).cond.num=(trV (a2G code) (a0g (siP code)) (siK code) (siR code)).cond.num∧((trV (a2G code) (a0g (siP code)) (siK code) (siR code)).cond.kids=(trV (a2G code) (a0g (siP code)) (siK code) (siR code)).cond.kids∧((trV (a2G code) (a0g (siP code)) (siK code) (siR code)).kids=(trV (a2G code) (a0g (siP code)) (siK code) (siR code)).kids∧True))))))∧(a4g code)))))
theorem e9v(code:List Int)(more:List Int):awp (a2o [b6o,b6p,b5z,a6t,b2v] [] [] [] []) (a0i a8l) (d2r code more) 0 (a1h (a2o [b6o,b6p,b5z,a6t,b2v] [] [] [] []) a8l fun r=>a1e r [⟨.bool,true⟩]) (a0r a8l [.val ⟨(.slice (.int .u8)),code⟩, .val ⟨(.slice (.int .u8)),more⟩]) =
 (((((decide (3000<code.length)||decide (3000<more.length))=true →
 true=true)∧((decide (3000<code.length)||decide (3000<more.length))=false →
 (∃ u1:Unit,(code.length≤3000∧((code=code∧True)∧True)))))∧(∀ u1:Unit,(code.length≤3000 →
 ((a6o code∧code.length≤1000000)∧((siK code).length≤140737488355328 →
 (a0d (siR code) →
 ((((decide ((siR code)=(1:Int)))=true →
 (∃ u2:Unit,(code.length≤3000∧((True∧(True∧((siK code)=(siK code)∧((siR code)=(siR code)∧((2:Int)=(bkV (siR code))∧True)))))∧(a4g code)))))∧((decide ((siR code)=(1:Int)))=false →
 (((decide ((siR code)=(2:Int)))=true →
 (∃ u2:Unit,(code.length≤3000∧((True∧(True∧((siK code)=(siK code)∧((siR code)=(siR code)∧((1:Int)=(bkV (siR code))∧True)))))∧(a4g code)))))∧((decide ((siR code)=(2:Int)))=false →
 (((decide ((siR code)=(5:Int)))=true →
 (∃ u2:Unit,(code.length≤3000∧((True∧(True∧((siK code)=(siK code)∧((siR code)=(siR code)∧((6:Int)=(bkV (siR code))∧True)))))∧(a4g code)))))∧((decide ((siR code)=(5:Int)))=false →
 (((decide ((siR code)=(6:Int)))=true →
 (∃ u2:Unit,(code.length≤3000∧((True∧(True∧((siK code)=(siK code)∧((siR code)=(siR code)∧((5:Int)=(bkV (siR code))∧True)))))∧(a4g code)))))∧((decide ((siR code)=(6:Int)))=false →
 (((decide ((siR code)=(8:Int)))=true →
 (∃ u2:Unit,(code.length≤3000∧((True∧(True∧((siK code)=(siK code)∧((siR code)=(siR code)∧((9:Int)=(bkV (siR code))∧True)))))∧(a4g code)))))∧((decide ((siR code)=(8:Int)))=false →
 (((decide ((siR code)=(9:Int)))=true →
 (∃ u2:Unit,(code.length≤3000∧((True∧(True∧((siK code)=(siK code)∧((siR code)=(siR code)∧((8:Int)=(bkV (siR code))∧True)))))∧(a4g code)))))∧((decide ((siR code)=(9:Int)))=false →
 (∃ u2:Unit,(code.length≤3000∧((True∧(True∧((siK code)=(siK code)∧((siR code)=(siR code)∧((0:Int)=(bkV (siR code))∧True)))))∧(a4g code))))))))))))))))∧(∀ u2:Unit,(code.length≤3000 →
 (a0d (trC (a2G code) (a0g (siP code)) (siK code) (siR code)) →
 (a0d (trC (a2G code) (a0g (siP code)) (siK code) (siR code)) →
 (((!(decide ((trC (a2G code) (a0g (siP code)) (siK code) (siR code))=(trC (a2G code) (a0g (siP code)) (siK code) (siR code)))))=true →
 false=true)∧((!(decide ((trC (a2G code) (a0g (siP code)) (siK code) (siR code))=(trC (a2G code) (a0g (siP code)) (siK code) (siR code)))))=false →
 ((((!(decide ((trC (a2G code) (a0g (siP code)) (siK code) (siR code))=(0:Int))))=false →
 (((decide ((bkV (siR code))=(0:Int)))=true →
 true=true)∧((decide ((bkV (siR code))=(0:Int)))=false →
 (c8a code))))∧((!(decide ((trC (a2G code) (a0g (siP code)) (siK code) (siR code))=(0:Int))))=(!false) →
 ((true=true →
 true=true)∧(true=false →
 (c8a code)))))∧(∀ u3:Unit,((trC (a2G code) (siP code) (siK code) (siR code)=0∧bkV (siR code)≠0) →
 (a0d (trC (a2G code) (a0g (trV (a2G code) (a0g (siP code)) (siK code) (siR code))) (siK code) (bkV (siR code))) →
 (((decide ((trC (a2G code) (a0g (trV (a2G code) (a0g (siP code)) (siK code) (siR code))) (siK code) (bkV (siR code)))=(0:Int)))=true →
 (eqB (a0g (trV (a2G code) (a0g (trV (a2G code) (a0g (siP code)) (siK code) (siR code))) (siK code) (bkV (siR code)))) (a0g (siP code)))=true)∧((decide ((trC (a2G code) (a0g (trV (a2G code) (a0g (siP code)) (siK code) (siR code))) (siK code) (bkV (siR code)))=(0:Int)))=(!true) →
 false=true)))))))))))))))))))):=by kernel_rfl
theorem e9e(hE:a0p [b6o,b6p,b5z,a6t,b2v])(hO:a4f [])(hM:a4x [])(hS:a4p []):Ctr.Good d2i:=by
 refine⟨a0j c9k rfl (by decide),?_⟩
 show ∀ (code:List Int) (more:List Int),(a6o code)→a1f prog b7t [.val ⟨(.slice (.int .u8)),code⟩, .val ⟨(.slice (.int .u8)),more⟩] (·=[⟨.bool,true⟩])
 intro code more hp
 refine f2f (own:=[]) (wr:=[]) (cl:=[]) (ro:=[]) hE hO hM hS c9k e1h (d2r code more) ?_
 rewrite [e9v code more]
 have T:=g0w (a2G code) (siP code) (siK code) (siR code)
 have K:=h0r (siR code)
 refine⟨⟨fun a0=>rfl,fun a0=>⟨(),⟨?_,⟨⟨rfl,trivial⟩,trivial⟩⟩⟩⟩,fun u1=>fun a0=>⟨?_,fun a1=>fun a2=>⟨⟨fun a3=>⟨(),⟨?_,⟨⟨trivial,⟨trivial,⟨rfl,⟨rfl,⟨?_,trivial⟩⟩⟩⟩⟩,⟨⟨rfl,⟨rfl,⟨rfl,⟨rfl,⟨rfl,⟨rfl,trivial⟩⟩⟩⟩⟩⟩,⟨⟨rfl,⟨rfl,trivial⟩⟩,trivial⟩⟩⟩⟩⟩,fun a3=>⟨fun a4=>⟨(),⟨?_,⟨⟨trivial,⟨trivial,⟨rfl,⟨rfl,⟨?_,trivial⟩⟩⟩⟩⟩,⟨⟨rfl,⟨rfl,⟨rfl,⟨rfl,⟨rfl,⟨rfl,trivial⟩⟩⟩⟩⟩⟩,⟨⟨rfl,⟨rfl,trivial⟩⟩,trivial⟩⟩⟩⟩⟩,fun a4=>⟨fun a5=>⟨(),⟨?_,⟨⟨trivial,⟨trivial,⟨rfl,⟨rfl,⟨?_,trivial⟩⟩⟩⟩⟩,⟨⟨rfl,⟨rfl,⟨rfl,⟨rfl,⟨rfl,⟨rfl,trivial⟩⟩⟩⟩⟩⟩,⟨⟨rfl,⟨rfl,trivial⟩⟩,trivial⟩⟩⟩⟩⟩,fun a5=>⟨fun a6=>⟨(),⟨?_,⟨⟨trivial,⟨trivial,⟨rfl,⟨rfl,⟨?_,trivial⟩⟩⟩⟩⟩,⟨⟨rfl,⟨rfl,⟨rfl,⟨rfl,⟨rfl,⟨rfl,trivial⟩⟩⟩⟩⟩⟩,⟨⟨rfl,⟨rfl,trivial⟩⟩,trivial⟩⟩⟩⟩⟩,fun a6=>⟨fun a7=>⟨(),⟨?_,⟨⟨trivial,⟨trivial,⟨rfl,⟨rfl,⟨?_,trivial⟩⟩⟩⟩⟩,⟨⟨rfl,⟨rfl,⟨rfl,⟨rfl,⟨rfl,⟨rfl,trivial⟩⟩⟩⟩⟩⟩,⟨⟨rfl,⟨rfl,trivial⟩⟩,trivial⟩⟩⟩⟩⟩,fun a7=>⟨fun a8=>⟨(),⟨?_,⟨⟨trivial,⟨trivial,⟨rfl,⟨rfl,⟨?_,trivial⟩⟩⟩⟩⟩,⟨⟨rfl,⟨rfl,⟨rfl,⟨rfl,⟨rfl,⟨rfl,trivial⟩⟩⟩⟩⟩⟩,⟨⟨rfl,⟨rfl,trivial⟩⟩,trivial⟩⟩⟩⟩⟩,fun a8=>⟨(),⟨?_,⟨⟨trivial,⟨trivial,⟨rfl,⟨rfl,⟨?_,trivial⟩⟩⟩⟩⟩,⟨⟨rfl,⟨rfl,⟨rfl,⟨rfl,⟨rfl,⟨rfl,trivial⟩⟩⟩⟩⟩⟩,⟨⟨rfl,⟨rfl,trivial⟩⟩,trivial⟩⟩⟩⟩⟩⟩⟩⟩⟩⟩⟩,fun u2=>fun a3=>fun a4=>fun a5=>⟨fun a6=>?_,fun a6=>⟨⟨fun a7=>⟨fun a8=>rfl,fun a8=>⟨(),⟨?_,⟨⟨trivial,⟨trivial,⟨rfl,⟨rfl,⟨trivial,trivial⟩⟩⟩⟩⟩,⟨⟨rfl,⟨rfl,⟨rfl,⟨rfl,⟨rfl,⟨rfl,trivial⟩⟩⟩⟩⟩⟩,⟨⟨rfl,⟨rfl,⟨rfl,⟨rfl,⟨rfl,⟨rfl,trivial⟩⟩⟩⟩⟩⟩,⟨⟨rfl,⟨rfl,trivial⟩⟩,trivial⟩⟩⟩⟩⟩⟩⟩,fun a7=>⟨fun a8=>rfl,fun a8=>⟨(),⟨?_,⟨⟨trivial,⟨trivial,⟨rfl,⟨rfl,⟨trivial,trivial⟩⟩⟩⟩⟩,⟨⟨rfl,⟨rfl,⟨rfl,⟨rfl,⟨rfl,⟨rfl,trivial⟩⟩⟩⟩⟩⟩,⟨⟨rfl,⟨rfl,⟨rfl,⟨rfl,⟨rfl,⟨rfl,trivial⟩⟩⟩⟩⟩⟩,⟨⟨rfl,⟨rfl,trivial⟩⟩,trivial⟩⟩⟩⟩⟩⟩⟩⟩,fun u3=>fun a7=>fun a8=>⟨fun a9=>?_,fun a9=>?_⟩⟩⟩⟩⟩⟩
 all_goals try and_intros
 all_goals try simp only[a0b.eta,a0a.eta,a2b,a2d] at *
 all_goals (try simp only[a0b.eta,a0a.eta,decide_eq_true_eq,decide_eq_false_iff_not,Bool.not_true,Bool.not_false,Bool.not_eq_true',Bool.not_eq_false',ne_eq] at *);first|rfl|trivial|omega|with_reducible assumption|(simp only[Bool.or_eq_false_iff,decide_eq_false_iff_not] at a0;omega)|(have h:siR code=_:=(by assumption);rw[h];rfl)|(rw[K (by assumption) (by assumption) (by assumption) (by assumption) (by assumption) (by assumption)];done)|(have G:=T (And.left (by assumption)) (And.right (by assumption));first|exact G.1|(rw[G.2];exact c2r _)|exact absurd G.1 (by assumption))
theorem e2i:Ctr.Good d2i:=e9e ⟨e8p,e8q,e0d,e0a,e2j,trivial⟩ trivial trivial trivial
theorem f7o{w:World}{S:Nat→Prop}:∀ (xs:List Int) (b o:Nat),a3o w S (xs.map (Ty.int IntKind.u8).toD) b o→a6o xs
 | [],_,_,_=>fun i h=>by simp at h
 | x::xs,b,o,h=>fun i hi=>by
  obtain⟨⟨cs,_,h1,_⟩,h2⟩:=h
  cases i with
  | zero =>
   have h3:IntKind.u8.min≤x∧x≤IntKind.u8.max:=h1.2
   have e1:IntKind.u8.min=0:=by decide
   have e2:IntKind.u8.max=255:=by decide
   rw[e1,e2] at h3
   exact h3
  | succ i=>simpa using f7o xs b _ h2 i (by simpa using hi)
theorem g6b{P:Program}{w:World}{S:Nat→Prop}{code:List Int}{x:Value}(h:c0u P w S (.val ⟨.slice (.int .u8),code⟩) x):a6o code:=by
 obtain⟨a,cap,_,_,_,_,h5⟩:=(show Rd w S (TV.toD ⟨.slice (.int .u8),code⟩) [x] from h)
 rcases h5 with h5|⟨b,o,_,_,h5⟩
 ·have:code=[]:=List.map_eq_nil_iff.1 h5
  subst this
  exact fun i h=>by simp at h
 ·exact f7o code b o h5
theorem g0f:∀ tvs:List TV,tvs.map TV.τ=[(.slice (.int .u8)),(.slice (.int .u8))]→a1f prog b7t (tvs.map .val) (·=[⟨.bool,true⟩]):=by
 intro tvs h
 match tvs,h with
 | [⟨t0,a0⟩,⟨t1,a1⟩],h =>
  simp only[List.map_cons,List.map_nil,List.cons.injEq,and_true] at h
  obtain⟨rfl,rfl⟩:=h
  intro w S vals hS ha
  match vals,ha with
  | [x,y],ha=>exact e2i.2 a0 a1 (g6b ha.1) w S [x,y] hS ha
end
end Go.Proofs.Ytlaoejdeanljgaa

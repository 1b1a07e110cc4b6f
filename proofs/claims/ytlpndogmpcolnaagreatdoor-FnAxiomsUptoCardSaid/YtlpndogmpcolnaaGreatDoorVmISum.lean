/- VmAxi, VmSrc, VmGen, VmBld2, VmGen2, VmFitX, VmPfe, VmIBase, VmPf1B, VmAxp, VmAxl, VmSame1, VmDTidy, VmDMach, VmDSum, VmDStep, VmSem, VmAxs, VmDInj, VmISumL, VmSort, VmISum. -/
import Derived.Test.YtlpndogmpcolnaaGreatDoorVmOwnFam
import Derived.WalkKit
import Derived.LoopTactic
import Derived.OwnWalk
import Derived.Deep.RegionHeld3
import Derived.Deep.AppendLies
import Derived.Maps.AppendAt
import Derived.Deep.DeepCutAuto
import Derived.Deep.CutBlock
import Derived.Lib.SliceRun
import Derived.Sort.Statements
import Derived.Shelf.Small.Bits
import Derived.Shelf.Small.Strs
import Derived.Shelf.SlSortCmp.NoneTotal
import Derived.Shelf.Strings.BuilderF
import Derived.Shelf.Strings.BuilderK
import Derived.Shelf.Strings.Search1
import Derived.Shelf.Strings.Search2
import Derived.Shelf.Strings.Cut
import Derived.Shelf.Strings.Shaped
import Derived.Shelf.Strings.Prefix
import Derived.Shelf.Strings.BuilderCap
import Derived.Ground.SlgnProg
import Derived.Shelf.SlicesG.Reverse
import Derived.Shelf.SlicesG.Cells
import Derived.Shelf.SlicesE.Reverse
import Derived.Test.YtlpndogmpcolnaaGreatDoorProg
import Derived.Deep.RegionWith
set_option linter.all false
set_option maxHeartbeats 4000000
set_option maxRecDepth 4000
namespace Go.Proofs.YtlpndogmpcolnaaGreatDoor
def b9m:=@Go.heap_setCell_same
def b9e:=@Go.heap_setCell_other
def b8N:=@List.take_add_one
def b6Z:=@beq_eq_false_iff_ne
def b9C:=@UInt8.not_lt
def b7R:=@beq_iff_eq
noncomputable section
def gP:aD:=aD.mk (3:Int) (4:Int)
def kx:List (List UInt8):=[[40,97,48,32,43,32,40,97,49,32,43,32,97,50,41,41,32,61,32,40,40,97,48,32,43,32,97,49,41,32,43,32,97,50,41],[40,97,48,32,43,32,97,49,41,32,61,32,40,97,49,32,43,32,97,48,41],[40,97,48,32,43,32,48,41,32,61,32,97,48],[40,97,48,32,43,32,97,48,41,32,61,32,97,48],[40,97,48,32,40,97,49,32,97,50,41,41,32,61,32,40,40,97,48,32,97,49,41,32,97,50,41],[40,49,32,97,48,41,32,61,32,97,48],[40,97,48,32,49,41,32,61,32,97,48],[40,97,48,32,40,97,49,32,43,32,97,50,41,41,32,61,32,40,40,97,48,32,97,49,41,32,43,32,40,97,48,32,97,50,41,41],[40,40,97,48,32,43,32,97,49,41,32,97,50,41,32,61,32,40,40,97,48,32,97,50,41,32,43,32,40,97,49,32,97,50,41,41],[40,48,32,97,48,41,32,61,32,48],[40,97,48,32,48,41,32,61,32,48],[40,49,32,43,32,40,97,48,32,97,48,42,41,41,32,61,32,97,48,42],[40,49,32,43,32,40,97,48,42,32,97,48,41,41,32,61,32,97,48,42],[40,116,48,32,116,48,41,32,61,32,116,48],[40,116,48,32,116,49,41,32,61,32,40,116,49,32,116,48,41],[40,116,48,32,43,32,126,116,48,41,32,61,32,49],[40,116,48,32,126,116,48,41,32,61,32,48],[126,126,116,48,32,61,32,116,48],[126,40,116,48,32,43,32,116,49,41,32,61,32,40,126,116,48,32,126,116,49,41],[126,40,116,48,32,116,49,41,32,61,32,40,126,116,48,32,43,32,126,116,49,41],[126,48,32,61,32,49],[126,49,32,61,32,48],[40,116,48,32,43,32,49,41,32,61,32,49],[40,40,116,48,32,43,32,116,49,41,32,40,116,48,32,43,32,116,50,41,41,32,61,32,40,116,48,32,43,32,40,116,49,32,116,50,41,41]]
def axQ:List aE:=kx.map (Jn gP)
def vL:kx.length=24:=rfl
def a9Y:kx.all (λ t=>sO gP t&&decide (t.length<=100))=true:=by kernel_rfl
def a3M(i:Nat)(h:i<24):sO gP (kx.getD i [])=true/\(kx.getD i []).length<=100/\Nj gP (kx.getD i [])=Jn gP (kx.getD i []):=by
 have hm:kx.getD i []∈kx:=by
  rw[b5P,b6e (by rw[vL];exact h)];exact b7a _
 have:=b6y.1 a9Y _ hm;rw[b5M,b5K] at this;exact⟨this.1,this.2,a8C gP _ (by decide) this.1⟩
def yP(i:Nat):List aE:=(kx.take i).map (Jn gP)
def TC(i:Nat)(h:i<24):yP (i+1)=yP i++[Jn gP (kx.getD i [])]:=by
 unfold yP;rw[gL [] kx i (by rw[vL];exact h)];simp
def W7(i:Nat)(h:24<=i):yP i=axQ:=by
 unfold yP axQ;rw[List.take_of_length_le (by rw[vL];exact h)]
def W8(i:Nat)(h:i<=24):(yP i).length=i:=by
 unfold yP;rw[List.length_map,List.length_take,vL];omega
def nT:bc:=⟨wX,[],⟨(none,[⟨(.st .sig),gP⟩])⟩⟩
def I7 :Nat->aI:=cf
def pW:bc.Good nT:=by
 refine⟨aG uj,?_⟩;intro  _;refine bo [] [] [] [] trivial uj DN (I7 ) ((aD.mk (3:Int) (4:Int))=gP) ?_;refine ?_;all_goals try and_intros
 all_goals first|rfl|trivial|omega|(simp only[b5K,b5L,aJ,ag,ca,ei,cY,bn] at *;omega)|(simp[aJ,ag] at *;omega)|grind
def Dm:bc:=⟨DD,[],⟨(none,[⟨(.st .sig),gP⟩])⟩⟩
def O5 :Nat->aI:=cf
def IM:bc.Good Dm:=by
 refine⟨aG Ah,?_⟩;intro  _;refine bo [] [] [] [] trivial Ah Ir (O5 ) ((aD.mk (3:Int) (4:Int))=gP) ?_;refine ?_;all_goals try and_intros
 all_goals first|rfl|trivial|omega|(simp only[b5K,b5L,aJ,ag,ca,ei,cY,bn] at *;omega)|(simp[aJ,ag] at *;omega)|grind
def qc:bc:=⟨qg,[],⟨(none,[⟨(.slice .str),kx⟩])⟩⟩
def D5 :Nat->aI:=cf
def zh:bc.Good qc:=by
 refine⟨aG oV,?_⟩;intro  _;refine bo [] [] [] [] trivial oV yR (D5 ) (([([40,97,48,32,43,32,40,97,49,32,43,32,97,50,41,41,32,61,32,40,40,97,48,32,43,32,97,49,41,32,43,32,97,50,41]),([40,97,48,32,43,32,97,49,41,32,61,32,40,97,49,32,43,32,97,48,41]),([40,97,48,32,43,32,48,41,32,61,32,97,48]),([40,97,48,32,43,32,97,48,41,32,61,32,97,48]),([40,97,48,32,40,97,49,32,97,50,41,41,32,61,32,40,40,97,48,32,97,49,41,32,97,50,41]),([40,49,32,97,48,41,32,61,32,97,48]),([40,97,48,32,49,41,32,61,32,97,48]),([40,97,48,32,40,97,49,32,43,32,97,50,41,41,32,61,32,40,40,97,48,32,97,49,41,32,43,32,40,97,48,32,97,50,41,41]),([40,40,97,48,32,43,32,97,49,41,32,97,50,41,32,61,32,40,40,97,48,32,97,50,41,32,43,32,40,97,49,32,97,50,41,41]),([40,48,32,97,48,41,32,61,32,48]),([40,97,48,32,48,41,32,61,32,48]),([40,49,32,43,32,40,97,48,32,97,48,42,41,41,32,61,32,97,48,42]),([40,49,32,43,32,40,97,48,42,32,97,48,41,41,32,61,32,97,48,42]),([40,116,48,32,116,48,41,32,61,32,116,48]),([40,116,48,32,116,49,41,32,61,32,40,116,49,32,116,48,41]),([40,116,48,32,43,32,126,116,48,41,32,61,32,49]),([40,116,48,32,126,116,48,41,32,61,32,48]),([126,126,116,48,32,61,32,116,48]),([126,40,116,48,32,43,32,116,49,41,32,61,32,40,126,116,48,32,126,116,49,41]),([126,40,116,48,32,116,49,41,32,61,32,40,126,116,48,32,43,32,126,116,49,41]),([126,48,32,61,32,49]),([126,49,32,61,32,48]),([40,116,48,32,43,32,49,41,32,61,32,49]),([40,40,116,48,32,43,32,116,49,41,32,40,116,48,32,43,32,116,50,41,41,32,61,32,40,116,48,32,43,32,40,116,49,32,116,50,41,41])])=kx) ?_;refine ?_;all_goals try and_intros
 all_goals first|rfl|trivial|omega|(simp only[b5K,b5L,aJ,ag,ca,ei,cY,bn] at *;omega)|(simp[aJ,ag] at *;omega)|grind
def tS:bc:=⟨Fw,[],⟨(none,[⟨(.slice (.st .equation)),axQ⟩])⟩⟩
def O9 :Nat->aI:=(fu 0 (.mk (Nat) (λ i=>i<=24) (λ i=>24 - i) [7] [0,6] (λ i=>[(9, .aO ⟨(.int .i64),((i:Int):Int)⟩),(8, .aO ⟨(.int .i64),((24:Int):Int)⟩),(7, .aO ⟨(.slice .str),(kx:List (List UInt8))⟩),(1, .aC 2300)]) [] (λ i=>[(2300, .aC (.st .equation) (yP i:List aE))]) [] [] (λ i=>cf)) cf)
def Je:bc.iY tS:=by
 refine⟨aG CQ,?_⟩;intro  _;refine eO [nT] [qd] [] [] [6,16,21,22] [] [] [] ⟨pW,af⟩ ⟨zF,af⟩ trivial trivial CQ JT (O9 ) (let v0:=[([40,97,48,32,43,32,40,97,49,32,43,32,97,50,41,41,32,61,32,40,40,97,48,32,43,32,97,49,41,32,43,32,97,50,41]),([40,97,48,32,43,32,97,49,41,32,61,32,40,97,49,32,43,32,97,48,41]),([40,97,48,32,43,32,48,41,32,61,32,97,48]),([40,97,48,32,43,32,97,48,41,32,61,32,97,48]),([40,97,48,32,40,97,49,32,97,50,41,41,32,61,32,40,40,97,48,32,97,49,41,32,97,50,41]),([40,49,32,97,48,41,32,61,32,97,48]),([40,97,48,32,49,41,32,61,32,97,48]),([40,97,48,32,40,97,49,32,43,32,97,50,41,41,32,61,32,40,40,97,48,32,97,49,41,32,43,32,40,97,48,32,97,50,41,41]),([40,40,97,48,32,43,32,97,49,41,32,97,50,41,32,61,32,40,40,97,48,32,97,50,41,32,43,32,40,97,49,32,97,50,41,41]),([40,48,32,97,48,41,32,61,32,48]),([40,97,48,32,48,41,32,61,32,48]),([40,49,32,43,32,40,97,48,32,97,48,42,41,41,32,61,32,97,48,42]),([40,49,32,43,32,40,97,48,42,32,97,48,41,41,32,61,32,97,48,42]),([40,116,48,32,116,48,41,32,61,32,116,48]),([40,116,48,32,116,49,41,32,61,32,40,116,49,32,116,48,41]),([40,116,48,32,43,32,126,116,48,41,32,61,32,49]),([40,116,48,32,126,116,48,41,32,61,32,48]),([126,126,116,48,32,61,32,116,48]),([126,40,116,48,32,43,32,116,49,41,32,61,32,40,126,116,48,32,126,116,49,41]),([126,40,116,48,32,116,49,41,32,61,32,40,126,116,48,32,43,32,126,116,49,41]),([126,48,32,61,32,49]),([126,49,32,61,32,48]),([40,116,48,32,43,32,49,41,32,61,32,49]),([40,40,116,48,32,43,32,116,49,41,32,40,116,48,32,43,32,116,50,41,41,32,61,32,40,116,48,32,43,32,40,116,49,32,116,50,41,41])];((ag ((v0.length:Int))->((∃ i1:Nat,(i1<=24/\((True/\(v0=kx/\(((v0.length:Int))=(24:Int)/\((0:Int)=(i1:Int)/\True))))/\([]=(yP i1)/\True))))/\(∀ i1:Nat,let v1:=[(eW (Jn (gP) (kx.getD i1 [])))];let v2:=decide ((i1:Int)<(24:Int));(i1<=24->((v2=true->(aJ (i1:Int) kx.length/\((kx.getD i1 []).length<=140737488355328->((sigOk (gP)=true/\(kx.getD i1 []).length<=8000)/\(bn ((yP i1).length+v1.length) 80/\(ag ((i1:Int)+(1:Int))/\(∃ i2:Nat,(i2<=24/\(24 - i2<24 - i1/\((True/\(kx=kx/\((24:Int)=(24:Int)/\(((i1:Int)+(1:Int))=(i2:Int)/\True))))/\(((yP i1)++v1)=(yP i2)/\True)))))))))))/\(v2=false->(yP i1)=axQ)))))))) ?_;have f0:=vL;have f1:sigOk gP=true:=by decide
 have f2:yP 0=[]:=rfl;refine λ _=>⟨⟨0,?_,⟨af,?_,?_,?_,af⟩,?_,af⟩,λ i1 _=>have a1l:=a3M i1;have a1m:=TC i1;have a1n:=W7 i1;have a8T:=W8 i1;⟨λ _=>⟨?_,λ _=>⟨?_,?_,?_,i1+1,?_,?_,⟨af,rfl,rfl,?_,af⟩,?_,af⟩⟩,λ _=>?_⟩⟩;all_goals try and_intros
 all_goals try (first|with_reducible rfl|with_reducible assumption)
 all_goals try simp only[J.eta,aE.eta,aQ,bq] at *
 all_goals first|rfl|trivial|omega|(simp only[b5K,b5L,bn,aJ,ag,b5S,b6d] at *;first|omega|grind)|grind
def tT:bc:=⟨FD,[],⟨(none,[⟨(.slice (.st .equation)),axQ⟩])⟩⟩
def Pb :Nat->aI:=(fu 0 (.a (Nat) (λ i=>i<=24) (λ i=>24 - i) [0,6,7] (λ i=>[(3, .aO ⟨(.int .i64),((i:Int):Int)⟩),(2, .aC 2700)]) [] (λ i=>[(2700, .aC (.st .equation) (yP i:List aE))])) cf)
def Jg:bc.iY tT:=by
 refine⟨aG CW,?_⟩;intro  _;refine eO [Dm,qc] [AU] [] [] [7,20,25,26] [] [] [] ⟨IM,zh,af⟩ ⟨Hg,af⟩ trivial trivial CW J0 (Pb ) (let v0:=((kx).length:Int);(((kx).length<=140737488355328->((∃ i1:Nat,(i1<=24/\(((kx)=(kx)/\(True/\((0:Int)=(i1:Int)/\True)))/\([]=(yP i1)/\True))))/\(∀ i1:Nat,let v1:=(kx).getD i1 [];let v2:=(i1:Int);(i1<=24->(ag v0->(((decide (v2<v0))=true->((kx).length<=140737488355328->(ag v2->(aJ v2 (kx).length/\(v1.length<=140737488355328->((kx)=(kx)/\(v2=v2/\(aJ v2 (kx).length/\(v1=v1/\(v1=v1/\((kx)=(kx)/\(v2=v2/\(aJ v2 (kx).length/\(v1=v1/\(v1=v1/\((sigOk (gP)=true/\v1.length<=8000)/\(bn ((yP i1).length+([(eW (Nj (gP) v1))]).length) 80/\(ag (v2+(1:Int))/\(∃ i2:Nat,(i2<=24/\(24 - i2<24 - i1/\(((kx)=(kx)/\(True/\((v2+(1:Int))=(i2:Int)/\True)))/\(((yP i1)++([(eW (Nj (gP) v1))]))=(yP i2)/\True)))))))))))))))))))))))/\((decide (v2<v0))=false->(yP i1)=axQ))))))))) ?_;have f0:=vL;have f1:sigOk gP=true:=by decide
 have f2:yP 0=[]:=rfl;refine λ _=>⟨⟨0,?_,⟨rfl,af,?_,af⟩,?_,af⟩,λ i1 _=>have a1l:=a3M i1;have a1m:=TC i1;have a1n:=W7 i1;have a8T:=W8 i1;λ _=>⟨λ _ _ _=>⟨?_,λ _=>⟨rfl,rfl,?_,rfl,rfl,rfl,rfl,?_,rfl,rfl,?_,?_,?_,i1+1,?_,?_,⟨rfl,af,?_,af⟩,?_,af⟩⟩,λ _=>?_⟩⟩;all_goals try and_intros
 all_goals try (first|with_reducible rfl|with_reducible assumption)
 all_goals try simp only[J.eta,aE.eta,aQ,bq] at *
 all_goals first|rfl|trivial|omega|(simp only[b5K,b5L,bn,aJ,ag,b5S,b6d] at *;first|omega|grind)|grind
def Oi(O:List Int)(pos:Int):Int:=if pos<(O.length:Int) then O.getD pos.toNat 0 else 0
def lR(O:List Int)(pos ar:Int):Int:=IntKind.u64.wrap (IntKind.u64.wrap (IntKind.u64.wrap (ar * 6364136223846793005)+Oi O pos)+1442695040888963407)
def Oj(s:Int):Int:=(((s.fdiv (2 ^ Int.toNat 40)).toNat &&& Int.toNat 255:Nat):Int)
def pL(O:List Int)(pos ar:Int):Int:=if pos+1<=(O.length:Int) then Oi O pos else Oj (lR O pos ar)
def cX(O:List Int):Prop:=∀ i,i<O.length->0<=O.getD i 0/\O.getD i 0<=255
def US(n:Int):0<=IntKind.u64.wrap n/\IntKind.u64.wrap n<=18446744073709551615:=by
 simp[IntKind.wrap,IntKind.signed,IntKind.bits];omega
def b4F:IntKind.u64.min=0:=rfl
def b4E:IntKind.u64.max=18446744073709551615:=rfl
def b4f(n:Int):ca .u64 n↔0<=n/\n<=18446744073709551615:=by
 have e1:IntKind.u64.min=0:=by decide
 have e2:IntKind.u64.max=18446744073709551615:=by decide
 show (IntKind.u64.min<=n/\n<=IntKind.u64.max)↔_;rw[e1,e2]
def F3(O:List Int)(pos ar:Int):0<=lR O pos ar/\lR O pos ar<=18446744073709551615:=US _
def YU(O:List Int)(pos:Int)(h:cX O)(h0:0<=pos):0<=Oi O pos/\Oi O pos<=255:=by
 unfold Oi;split
 .exact h _ (by omega)
 .omega
def a5X(s:Int):0<=Oj s/\Oj s<=255:=by
 have:(s.fdiv (2 ^ Int.toNat 40)).toNat &&& Int.toNat 255<=255:=Nat.and_le_right;unfold Oj;omega
def Lu(O:List Int)(pos ar:Int)(h:cX O)(h0:0<=pos):0<=pL O pos ar/\pL O pos ar<=255:=by
 unfold pL;split
 .exact YU O pos h h0
 .exact a5X _
def a1B(n:Int):0<=(IntKind.u64.wrap n).fdiv (2 ^ (40:Int).toNat)/\(IntKind.u64.wrap n).fdiv (2 ^ (40:Int).toNat)<=18446744073709551615:=by
 have h:=US n;have e:(2:Int) ^ (40:Int).toNat=1099511627776:=by decide
 rw[e,b9f _ (by omega)];omega
def U7(n:Nat):n &&& (255:Int).toNat<=255:=Nat.and_le_right
def a2p(O:List Int)(pos ar:Int)(h:pos+1<=(O.length:Int)):pL O pos ar=Oi O pos:=b5Q h
def PQ(O:List Int)(pos ar:Int)(h:¬ (pos+1<=(O.length:Int))):pL O pos ar=Oj (lR O pos ar):=b5I h
def PO(O:List Int)(pos:Int)(h:pos<(O.length:Int)):O.getD pos.toNat 0=Oi O pos:=(b5Q h).symm
def PN(O:List Int)(pos:Int)(h:¬ (pos<(O.length:Int))):(0:Int)=Oi O pos:=(b5I h).symm
def a5Y(O:List Int)(pos ar:Int)(h1:¬ (pos<(O.length:Int)))(h2:¬ (pos+1<=(O.length:Int))):((((IntKind.u64.wrap ((IntKind.u64.wrap ((IntKind.u64.wrap (ar * (6364136223846793005:Int)))+(0:Int)))+(1442695040888963407:Int))).fdiv (2 ^ (40:Int).toNat)).toNat &&& (255:Int).toNat:Nat):Int)=pL O pos ar:=by
 have e:=PN O pos h1;rw[PQ O pos ar h2,Oj,lR,<-e]
def ss:dZ:=⟨uH,[[.d (.slice (.int .u8)), .d (.int .i64), .d (.int .u64)]],[.b 0],[[(.slice (.int .u8)),(.int .i64),(.int .u64)]],λ (O:List Int) (pos:Int) (ar:Int)=>⟨(some (cX O/\0<=pos/\pos<=1000000000/\O.length<=1000000/\0<=ar/\ar<=18446744073709551615),[⟨(.int .i64),pL O pos ar⟩],[[⟨(.slice (.int .u8)),O⟩,⟨(.int .i64),pos+1⟩,⟨(.int .u64),lR O pos ar⟩]])⟩⟩
def Fo(O:List Int)(pos:Int)(ar:Int):Nat->aI:=cf
abbrev Cg(O:List Int)(pos:Int)(ar:Int):Prop:=((O=O/\((pos+(1:Int))=(pos+1)/\(IntKind.u64.wrap ((IntKind.u64.wrap ((IntKind.u64.wrap (ar * (6364136223846793005:Int)))+(O.getD (Int.toNat pos) (0:Int))))+(1442695040888963407:Int)))=(lR O pos ar)))/\True)
abbrev Ch(O:List Int)(pos:Int)(ar:Int):Prop:=((O=O/\((pos+(1:Int))=(pos+1)/\(IntKind.u64.wrap ((IntKind.u64.wrap ((IntKind.u64.wrap (ar * (6364136223846793005:Int)))+(0:Int)))+(1442695040888963407:Int)))=(lR O pos ar)))/\True)
def Bm:dZ.Good ss:=by
 refine⟨aG rQ,?_⟩;intro (O:List Int) (pos:Int) (ar:Int) (hp:cX O/\0<=pos/\pos<=1000000000/\O.length<=1000000/\0<=ar/\ar<=18446744073709551615);refine dC [] [] [] [] [] [] [] [] trivial trivial trivial trivial rQ BJ (Fo O pos ar) rfl rfl (let v4:=(O.length:Int);let v5:=pos+(1:Int);let v2:=decide (v5<=v4);let v6:=(255:Int);let v7:=(0:Int);let v3:=O.getD (Int.toNat pos) v7;let v8:=IntKind.u64.wrap (ar * (6364136223846793005:Int));let v9:=pL O pos ar;let vc:=(40:Int);let v0:=(IntKind.u64.wrap ((IntKind.u64.wrap (v8+v3))+(1442695040888963407:Int))).fdiv (2 ^ vc.toNat);let v1:=(IntKind.u64.wrap ((IntKind.u64.wrap (v8+v7))+(1442695040888963407:Int))).fdiv (2 ^ vc.toNat);let va:=((v0.toNat &&& v6.toNat:Nat):Int);let vb:=((v1.toNat &&& v6.toNat:Nat):Int);let vd:=Cg O pos ar;let ve:=Ch O pos ar;((ag pos->(O.length<=140737488355328->(ag v4->(((decide (pos<v4))=true->(O.length<=140737488355328->(ag pos->(aJ pos O.length/\(ag v3/\(ag pos->(ag v5/\(ca .u64 v3/\(ag v5->(O.length<=140737488355328->(ag v4->((v2=true->(v3=v9/\vd))/\(v2=false->((v7<=vc/\(vc<(64:Int)/\ca .u64 v0))/\((v7<=v0/\(v7<=v6/\(ca .u64 v0/\ca .u64 v6)))/\(ag va/\(va=v9/\vd)))))))))))))))))/\((decide (pos<v4))=false->(ag pos->(ag v5/\(ca .u64 v7/\(ag v5->(O.length<=140737488355328->(ag v4->((v2=true->(v7=v9/\ve))/\(v2=false->((v7<=vc/\(vc<(64:Int)/\ca .u64 v1))/\((v7<=v1/\(v7<=v6/\(ca .u64 v1/\ca .u64 v6)))/\(ag vb/\(vb=v9/\ve))))))))))))))))))) ?_;obtain⟨h1,h2,h3,h4,h5,h6⟩:=hp;have f1:=YU O pos h1 h2;have f2:=F3 O pos ar;refine λ _ _ _=>⟨λ _ _ _=>⟨?_,?_,λ _=>⟨?_,?_,λ _ _ _=>⟨λ _=>⟨?_,⟨rfl,?_,?_⟩,af⟩,λ _=>⟨⟨?_,?_,?_⟩,⟨?_,?_,?_,?_⟩,?_,?_,⟨rfl,?_,?_⟩,af⟩⟩⟩⟩,λ _ _=>⟨?_,?_,λ _ _ _=>⟨λ _=>⟨?_,⟨rfl,?_,?_⟩,af⟩,λ _=>⟨⟨?_,?_,?_⟩,⟨?_,?_,?_,?_⟩,?_,?_,⟨rfl,?_,?_⟩,af⟩⟩⟩⟩;all_goals try and_intros
 all_goals first|rfl|trivial|omega|(simp only[decide_eq_true_eq,decide_eq_false_iff_not] at *;exact a5Y O pos ar (by omega) (by omega))|(simp only[decide_eq_true_eq,decide_eq_false_iff_not,aJ,ag,b4f,b4F,b4E] at *;first|omega|(rw[PO O pos (by omega)];omega)|exact a1B _|(have:=a1B;have:=U7;grind)|(rw[PO O pos (by omega)];first|omega|rfl|(rw[a2p O pos ar (by omega)];done)|(rw[PQ O pos ar (by omega)];rfl))|(rw[a2p O pos ar (by omega)];exact PN O pos (by omega))|(unfold lR;rw[<-PN O pos (by omega)];done)|(rw[PQ O pos ar (by omega)];unfold Oj lR;rw[<-PN O pos (by omega)];rfl)|(unfold lR;rw[<-PO O pos (by omega)];done)|(rw[PQ O pos ar (by omega)];unfold Oj lR;rw[<-PO O pos (by omega)];rfl)|(have:=U7;constructor<;>first|omega|(refine Int.le_trans (Int.ofNat_le.2 (U7 _)) ?_;omega)))
def pkX(O:List Int)(pos ar n:Int):Int:=if 200<n then pL O pos ar * 256+pL O (pos+1) (lR O pos ar) else pL O pos ar
def YB(O:List Int)(pos ar n:Int):Int:=if n<=1 then 0 else (pkX O pos ar n).tmod n
def Wp(pos n:Int):Int:=if n<=1 then pos else if 200<n then pos+1+1 else pos+1
def pkS(O:List Int)(pos ar n:Int):Int:=if n<=1 then ar else if 200<n then lR O (pos+1) (lR O pos ar) else lR O pos ar
def Su(a n:Int)(h:0<=a)(hn:0<n):0<=a.tmod n/\a.tmod n<n:=by
 rw[Int.tmod_eq_emod_of_nonneg h];exact⟨Int.emod_nonneg _ (by omega),Int.emod_lt_of_pos _ hn⟩
def a1X(O:List Int)(pos ar n:Int)(h:cX O)(h0:0<=pos):0<=YB O pos ar n/\(YB O pos ar n=0\/YB O pos ar n<n):=by
 have h1:=Lu O pos ar h h0;have h2:=Lu O (pos+1) (lR O pos ar) h (by omega);unfold YB pkX;split
 .omega
 .split
  .have:=Su (pL O pos ar * 256+pL O (pos+1) (lR O pos ar)) n (by omega) (by omega);omega
  .have:=Su (pL O pos ar) n (by omega) (by omega);omega
structure Sr where
 pos:Int
 ar:Int
def cE(O:List Int)(s:Sr)(n:Int):Sr:=⟨Wp s.pos n,pkS O s.pos s.ar n⟩
def pk(O:List Int)(s:Sr)(n:Int):Int:=YB O s.pos s.ar n
def qj(s:Sr):Sr.mk s.pos s.ar=s:=rfl
def b4i(O:List Int)(s:Sr)(n:Int):pk O s n=YB O s.pos s.ar n:=rfl
def b4j(O:List Int)(s:Sr)(n:Int):(cE O s n).pos=Wp s.pos n:=rfl
def b4k(O:List Int)(s:Sr)(n:Int):(cE O s n).ar=pkS O s.pos s.ar n:=rfl
structure bC(O:List Int)(s:Sr)(m:Int):Prop where
 c:cX O
 p:0<=s.pos
 m:s.pos<=m
 l:O.length<=1000000
 s0:0<=s.ar
 s1:s.ar<=18446744073709551615
def a8r(O:List Int)(pos ar n:Int)(h:0<=ar/\ar<=18446744073709551615):0<=pkS O pos ar n/\pkS O pos ar n<=18446744073709551615:=by
 unfold pkS;split
 .exact h
 .split
  .exact F3 _ _ _
  .exact F3 _ _ _
def a8q(pos n:Int):pos<=Wp pos n/\Wp pos n<=pos+2:=by
 unfold Wp;split
 .omega
 .split<;>omega
def bC.next{O:List Int}{s:Sr}{m:Int}(h:bC O s m)(n:Int):bC O (cE O s n) (m+2):=by
 have h1:=a8q s.pos n;have h2:=a8r O s.pos s.ar n ⟨h.s0,h.s1⟩;have:=h.p;have:=h.m;exact⟨h.c,by show 0<=Wp s.pos n;omega,by show Wp s.pos n<=m+2;omega,h.l,h2.1,h2.2⟩
def bC.mono{O:List Int}{s:Sr}{m k:Int}(h:bC O s m)(hk:m<=k):bC O s k:=⟨h.c,h.p,by have:=h.m;omega,h.l,h.s0,h.s1⟩
def bC.pk{O:List Int}{s:Sr}{m:Int}(h:bC O s m)(n:Int):0<=pk O s n/\(pk O s n=0\/pk O s n<n):=a1X O s.pos s.ar n h.c h.p
def de:dZ:=⟨uI,[[.d (.slice (.int .u8)), .d (.int .i64), .d (.int .u64)]],[.b 0, .v (.int .i64)],[[(.slice (.int .u8)),(.int .i64),(.int .u64)]],λ (n:Int) (O:List Int) (pos:Int) (ar:Int)=>⟨(some (bC O (Sr.mk pos ar) 999999000/\n<=1000000),[⟨(.int .i64),pk O (Sr.mk pos ar) n⟩],[[⟨(.slice (.int .u8)),O⟩,⟨(.int .i64),(cE O (Sr.mk pos ar) n).pos⟩,⟨(.int .u64),(cE O (Sr.mk pos ar) n).ar⟩]])⟩⟩
def Fp(n:Int)(O:List Int)(pos:Int)(ar:Int):Nat->aI:=cf
def dB:dZ.Good de:=by
 refine⟨aG rR,?_⟩;intro (n:Int) (O:List Int) (pos:Int) (ar:Int) (hp:bC O (Sr.mk pos ar) 999999000/\n<=1000000);refine dC [] [] [] [ss] [] [] [] [] trivial trivial trivial ⟨Bm,af⟩ rR BK (Fp n O pos ar) rfl rfl (let v1:=cE O (Sr.mk pos ar) n;let v2:=lR O pos ar;let v3:=pL O pos ar;let v4:=pk O (Sr.mk pos ar) n;let v5:=pos+1;let v0:=(v3 * (256:Int))+(pL O v5 v2);((((decide (n<=(1:Int)))=true->((0:Int)=v4/\((O=O/\(pos=(v1.pos)/\ar=(v1.ar)))/\True)))/\((decide (n<=(1:Int)))=false->((cX O/\0<=pos/\pos<=1000000000/\O.length<=1000000/\0<=ar/\ar<=18446744073709551615)/\(((decide ((200:Int)<n))=true->(ag (v3 * (256:Int))/\((cX O/\0<=v5/\v5<=1000000000/\O.length<=1000000/\0<=v2/\v2<=18446744073709551615)/\(ag v0/\((n≠(0:Int)/\ag (v0.tmod n))/\((v0.tmod n)=v4/\((O=O/\((v5+1)=(v1.pos)/\(lR O v5 v2)=(v1.ar)))/\True)))))))/\((decide ((200:Int)<n))=false->((n≠(0:Int)/\ag (v3.tmod n))/\((v3.tmod n)=v4/\((O=O/\(v5=(v1.pos)/\v2=(v1.ar)))/\True)))))))))) ?_;obtain⟨⟨h1,h2,h3,h4,h5,h6⟩,h7⟩:=hp;simp only at h2 h3 h5 h6;have f1:=Lu O pos ar h1 h2;have f2:=F3 O pos ar;have f3:=Lu O (pos+1) (lR O pos ar) h1 (by omega);have f4:=F3 O (pos+1) (lR O pos ar);have f5:=a1X O pos ar n h1 h2;have f6:=λ (a:Int) (h:0<=a) (hn:¬ n<=1)=>Su a n h (by omega);have f7:=λ hn=>f6 (pL O pos ar) f1.1 hn;have f8:=λ hn=>f6 (pL O pos ar * 256+pL O (pos+1) (lR O pos ar)) (by omega) hn;refine⟨λ _=>⟨?_,⟨rfl,?_,?_⟩,af⟩,λ _=>⟨?_,λ _=>⟨?_,?_,?_,⟨?_,?_⟩,?_,⟨rfl,?_,?_⟩,af⟩,λ _=>⟨⟨?_,?_⟩,?_,⟨rfl,?_,?_⟩,af⟩⟩⟩;all_goals try and_intros
 all_goals (try simp only[b4i,b4j,b4k]);first|rfl|trivial|omega|(simp only[decide_eq_true_eq,decide_eq_false_iff_not,aJ,ag] at *;first|omega|(have g7:=f7 (by omega);have g8:=f8 (by omega);clear f6 f7 f8;first|omega|grind [YB,pkX,Wp,pkS])|grind [YB,pkX,Wp,pkS])
def pC(O:List Int)(s:Sr)(n:Int):Bool:=decide (pk O s n=0)
def iT:dZ:=⟨w8,[[.d (.slice (.int .u8)), .d (.int .i64), .d (.int .u64)]],[.b 0, .v (.int .i64)],[[(.slice (.int .u8)),(.int .i64),(.int .u64)]],λ (n:Int) (O:List Int) (pos:Int) (ar:Int)=>⟨(some (bC O (Sr.mk pos ar) 999999000/\n<=1000000),[⟨.bool,pC O (Sr.mk pos ar) n⟩],[[⟨(.slice (.int .u8)),O⟩,⟨(.int .i64),(cE O (Sr.mk pos ar) n).pos⟩,⟨(.int .u64),(cE O (Sr.mk pos ar) n).ar⟩]])⟩⟩
def Hc(n:Int)(O:List Int)(pos:Int)(ar:Int):Nat->aI:=cf
def pI:dZ.Good iT:=by
 refine⟨aG um,?_⟩;intro (n:Int) (O:List Int) (pos:Int) (ar:Int) (hp:bC O (Sr.mk pos ar) 999999000/\n<=1000000);refine dC [] [] [] [de] [] [] [] [] trivial trivial trivial ⟨dB,af⟩ um DP (Hc n O pos ar) rfl rfl (let v1:=Sr.mk pos ar;let v0:=cE O v1 n;(((bC O v1 999999000/\n<=1000000)/\((decide ((pk O v1 n)=(0:Int)))=(pC O v1 n)/\((O=O/\((v0.pos)=(v0.pos)/\(v0.ar)=(v0.ar)))/\True))))) ?_;refine⟨?_,⟨?_,⟨⟨rfl,⟨rfl,rfl⟩⟩,af⟩⟩⟩;all_goals try and_intros
 all_goals first|rfl|trivial|omega|(simp only[b5K,b5L,aJ,ag,ca,ei,cY,bn] at *;omega)|(simp[aJ,ag] at *;omega)|grind
def Mh(O:List Int)(s:Sr):Sr:=cE O (cE O (cE O s 2) 2) 12
def SJ(O:List Int)(s:Sr):Int:=pk O (cE O (cE O s 2) 2) 12
def Qt(O:List Int)(s:Sr):aD :=
 if SJ O s=0 then aD.mk (pk O (Mh O s) 4) (1+pk O (cE O s 2) 2) else if SJ O s=1 then aD.mk (1+pk O s 2) (pk O (Mh O s) 5) else aD.mk (1+pk O s 2) (1+pk O (cE O s 2) 2)
def Qu(O:List Int)(s:Sr):Sr:=if SJ O s=0 then cE O (Mh O s) 4 else if SJ O s=1 then cE O (Mh O s) 5 else Mh O s
def km(O:List Int)(s:Sr):(SJ O s=0->Qt O s=aD.mk (pk O (Mh O s) 4) (1+pk O (cE O s 2) 2)/\Qu O s=cE O (Mh O s) 4) /\
  (SJ O s=1->Qt O s=aD.mk (1+pk O s 2) (pk O (Mh O s) 5)/\Qu O s=cE O (Mh O s) 5) /\
  (¬ SJ O s=0->¬ SJ O s=1->Qt O s=aD.mk (1+pk O s 2) (1+pk O (cE O s 2) 2)/\Qu O s=Mh O s):=by
 unfold Qt Qu;refine⟨λ h=>?_,λ h=>?_,λ h1 h2=>?_⟩
 .rw[b5Q h,b5Q h];exact⟨rfl,rfl⟩
 .rw[b5I (by omega),b5Q h,b5I (by omega),b5Q h];exact⟨rfl,rfl⟩
 .rw[b5I h1,b5I h2,b5I h1,b5I h2];exact⟨rfl,rfl⟩
def b0O(O:List Int)(s:Sr)(m:Int)(h:bC O s m):sigOk (Qt O s)=true/\bC O (Qu O s) (m+8):=by
 have a1:=h.pk 2;have h1:=h.next 2;have a2:=h1.pk 2;have h2:=h1.next 2;have h3:=h2.next 12;have a4:=h3.pk 4;have a5:=h3.pk 5;have b4:=h3.next 4;have b5:=h3.next 5;obtain⟨c1,c2,c3⟩:=km O s;by_cases k0:SJ O s=0
 .rw[(c1 k0).1,(c1 k0).2];refine⟨(dt _).2 ?_,b4.mono (by omega)⟩;show (0<=pk O (Mh O s) 4/\_)/\_;have:pk O (Mh O s) 4=pk O (cE O (cE O (cE O s 2) 2) 12) 4:=rfl;simp only;omega
 .by_cases k1:SJ O s=1
  .rw[(c2 k1).1,(c2 k1).2];refine⟨(dt _).2 ?_,b5.mono (by omega)⟩;have:pk O (Mh O s) 5=pk O (cE O (cE O (cE O s 2) 2) 12) 5:=rfl;simp only;omega
  .rw[(c3 k0 k1).1,(c3 k0 k1).2];refine⟨(dt _).2 ?_,h3.mono (by omega)⟩;simp only;omega
def uD:dZ:=⟨xa,[[.d (.slice (.int .u8)), .d (.int .i64), .d (.int .u64)]],[.b 0],[[(.slice (.int .u8)),(.int .i64),(.int .u64)]],λ (O:List Int) (pos:Int) (ar:Int)=>⟨(some (bC O (Sr.mk pos ar) 900000000),[⟨(.st .sig),Qt O (Sr.mk pos ar)⟩],[[⟨(.slice (.int .u8)),O⟩,⟨(.int .i64),(Qu O (Sr.mk pos ar)).pos⟩,⟨(.int .u64),(Qu O (Sr.mk pos ar)).ar⟩]])⟩⟩
def Hd(O:List Int)(pos:Int)(ar:Int):Nat->aI:=cf
def CI:dZ.Good uD:=by
 refine⟨aG uo,?_⟩;intro (O:List Int) (pos:Int) (ar:Int) (hp:bC O (Sr.mk pos ar) 900000000);refine dC [] [] [] [de] [] [] [] [] trivial trivial trivial ⟨dB,af⟩ uo DQ (Hd O pos ar) rfl rfl (let v1:=Sr.mk pos ar;let v6:=Qu O v1;let v7:=(2:Int);let v0:=cE O (cE O v1 v7) v7;let v2:=cE O v0 (12:Int);let v3:=(1:Int)+(pk O (cE O v1 v7) v7);let v4:=(1:Int)+(pk O v1 v7);let v5:=pk O v0 (12:Int);(((bC O v1 999999000/\v7<=1000000)/\(ag v4/\((bC O (cE O v1 v7) 999999000/\v7<=1000000)/\(ag v3/\((bC O v0 999999000/\(12:Int)<=1000000)/\(((decide (v5=(0:Int)))=true->((bC O v2 999999000/\(4:Int)<=1000000)/\((aD.mk (pk O v2 (4:Int)) v3)=(Qt O v1)/\((O=O/\(((cE O v2 (4:Int)).pos)=(v6.pos)/\((cE O v2 (4:Int)).ar)=(v6.ar)))/\True))))/\((decide (v5=(0:Int)))=false->(((decide (v5=(1:Int)))=true->((bC O v2 999999000/\(5:Int)<=1000000)/\((aD.mk v4 (pk O v2 (5:Int)))=(Qt O v1)/\((O=O/\(((cE O v2 (5:Int)).pos)=(v6.pos)/\((cE O v2 (5:Int)).ar)=(v6.ar)))/\True))))/\((decide (v5=(1:Int)))=false->((aD.mk v4 v3)=(Qt O v1)/\((O=O/\((v2.pos)=(v6.pos)/\(v2.ar)=(v6.ar)))/\True))))))))))))) ?_;have q0:=hp;have q1:=q0.next 2;have q2:=q1.next 2;have q3:=q2.next 12;have p1:=q0.pk 2;have p2:=q1.pk 2;have p3:=q2.pk 12;refine⟨?_,?_,?_,?_,?_,λ _=>⟨?_,?_,⟨rfl,?_,?_⟩,af⟩,λ _=>⟨λ _=>⟨?_,?_,⟨rfl,?_,?_⟩,af⟩,λ _=>⟨?_,⟨rfl,?_,?_⟩,af⟩⟩⟩;all_goals try and_intros
 all_goals first|rfl|trivial|omega|((try simp only[qj,b5K,b5L,ag] at *);first|omega|exact ((km O (Sr.mk pos ar)).1 (by assumption)).1.symm|exact congrArg Sr.pos ((km O (Sr.mk pos ar)).1 (by assumption)).2.symm|exact congrArg Sr.ar ((km O (Sr.mk pos ar)).1 (by assumption)).2.symm|exact ((km O (Sr.mk pos ar)).2.1 (by assumption)).1.symm|exact congrArg Sr.pos ((km O (Sr.mk pos ar)).2.1 (by assumption)).2.symm|exact congrArg Sr.ar ((km O (Sr.mk pos ar)).2.1 (by assumption)).2.symm|exact ((km O (Sr.mk pos ar)).2.2 (by assumption) (by assumption)).1.symm|exact congrArg Sr.pos ((km O (Sr.mk pos ar)).2.2 (by assumption) (by assumption)).2.symm|exact congrArg Sr.ar ((km O (Sr.mk pos ar)).2.2 (by assumption) (by assumption)).2.symm|exact q0.mono (by decide)|exact q1.mono (by decide)|exact q2.mono (by decide)|exact q3.mono (by decide))
def qI:bc:=⟨DA,[.v (.int .i64), .o (.st .expr), .o (.st .expr)],λ (k:Int) (a:J) (b:J)=>⟨(none,[⟨(.st .expr),J.mk k 0 [a,b]⟩])⟩⟩
def M1(k:Int)(a:J)(b:J):Nat->aI:=cf
def Hf:bc.iY qI:=by
 refine⟨aG Ae,?_⟩;intro (k:Int) (a:J) (b:J) _;refine eO [] [] [] [] [10] [] [] [] trivial trivial trivial trivial Ae Io (M1 k a b) ((J.mk k (0:Int) ([(aV a),(aV b)]))=(J.mk k 0 [a,b])) ?_;refine ?_;all_goals try and_intros
 all_goals try (first|with_reducible rfl|with_reducible assumption)
 all_goals try simp only[J.eta,aE.eta,aQ,bq] at *
 all_goals first|rfl|trivial|omega|(simp only[b5K,b5L,aJ,ag,ca,ei,cY,bn] at *;omega)|(simp[aJ,ag] at *;omega)|grind
mutual
def UO:∀ x:J,ep x+1=au x
 | ⟨_,_,ks⟩=>by
  have:=Sl ks;simp only[ep,au];omega
def Sl:∀ xs:List J,xs.length+vz xs=gI xs
 | []=>rfl
 | x::xs=>by
  have h1:=UO x;have h2:=Sl xs;simp only[vz,gI,b5S];omega
end
def lfA(a:Int)(c:Bool):Bool := !c&&decide (0<a)
def zz(O:List Int)(a:Int)(c:Bool)(s:Sr):Sr:=if lfA a c=true then cE O s 3 else s
def lfX(O:List Int)(a:Int)(c:Bool)(s:Sr):Bool:=lfA a c && !pC O s 3
def MY(O:List Int)(t:Int)(s:Sr):Sr:=if 0<t then cE O s 4 else s
def lfY(O:List Int)(t:Int)(s:Sr):Bool:=decide (0<t) && !pC O s 4
def Rt(O:List Int)(t a:Int)(c:Bool)(s:Sr):J :=
 if lfX O a c s=true then J.mk 4 (pk O (zz O a c s) a) [] else if lfY O t (zz O a c s)=true then J.mk 3 (pk O (MY O t (zz O a c s)) t) [] else J.mk (1+pk O (MY O t (zz O a c s)) 2) 0 []
def K0(O:List Int)(t a:Int)(c:Bool)(s:Sr):Sr :=
 if lfX O a c s=true then cE O (zz O a c s) a else if lfY O t (zz O a c s)=true then cE O (MY O t (zz O a c s)) t else cE O (MY O t (zz O a c s)) 2
structure Gn where
 e:J
 s:Sr
 left:Int
def XA(O:List Int)(t a:Int)(c:Bool)(s:Sr)(l:Int):Gn:=⟨Rt O t a c s,K0 O t a c s,l⟩
def OG(O:List Int)(c:Bool)(s:Sr)(n:Int):Bool:=c||pC O s n
def Iy(O:List Int)(c:Bool)(s:Sr)(n:Int):Sr:=if c=true then s else cE O s n
def nQ(O:List Int)(s:Sr):Int:=pk O (cE O s 6) 10
def jr(O:List Int)(s:Sr):Sr:=cE O (cE O s 6) 10
def dR(O:List Int)(t a:Int):Nat->Bool->Sr->Int->Gn
 | 0,c,s,left=>XA O t a c s (left - 1)
 | d+1,c,s,left =>
  if left - 1<1 then XA O t a c s (left - 1) else
  if pC O s 6=true then XA O t a c (cE O s 6) (left - 1) else
  if nQ O s=0\/(c=true/\nQ O s<4) then ⟨J.mk 5 0 [(dR O t a d true (jr O s) (left - 1)).e],(dR O t a d true (jr O s) (left - 1)).s,(dR O t a d true (jr O s) (left - 1)).left⟩ else
  if nQ O s<4 then ⟨J.mk 8 0 [(dR O t a d false (jr O s) (left - 1)).e],(dR O t a d false (jr O s) (left - 1)).s,(dR O t a d false (jr O s) (left - 1)).left⟩ else
  let ra:=dR O t a d (OG O c (jr O s) 5) (Iy O c (jr O s) 5) (left - 1);let rb:=dR O t a d (OG O c ra.s 6) (Iy O c ra.s 6) ra.left;⟨J.mk (if nQ O s<6 then 6 else 7) 0 [ra.e,rb.e],rb.s,rb.left⟩
def wG:Nat->Nat
 | 0=>1
 | d+1=>1+wG d+wG d
structure a3v(O:List Int)(t a:Int)(d:Nat)(c:Bool)(m left:Int)(r:Gn):Prop where
 tr:a8 (t - 1) (a - 1) r.e=true
 cn:c=true->bj r.e=true
 nd:au r.e<=wG d
 dp:bm r.e<=d+1
 sr:bC O r.s (m+16 * wG d)
 l0:left - wG d<=r.left
 l1:r.left<=left
def LL(d:Nat):1<=wG d:=by cases d<;>simp[wG];omega
def XI(t a k n:Int)(hk:cm k=0)(h5:¬ k=5)(hn:if k=3 then 0<=n/\n<=t else if k=4 then 0<=n/\n<=a else n=0):a8 t a (J.mk k n [])=true:=by
 simp only[a8,iW,lB,b7I];rw[b6I (show cm k=(([]:List J).length:Int) from hk),b6f h5];simp only[b7x,b5T,Bool.true_or,b7I];split
 .rename_i h;rw[b5Q h] at hn;exact b6I hn
 .rename_i h;rw[b5I h] at hn;split
  .rename_i h';rw[b5Q h'] at hn;exact b6I hn
  .rename_i h';rw[b5I h'] at hn;exact b6I hn
def a0k(O:List Int)(t a:Int)(c:Bool)(s:Sr)(m l left b:Int)(d:Nat)(hb:m+6<=b+16 * (wG d:Int))(h:bC O s m)(ht:0<=t/\t<=3)(ha:0<=a/\a<=4)(hl:l=left - 1):a3v O t a d c b left (XA O t a c s l):=by
 have hw:=LL d;have h1:bC O (zz O a c s) (m+2):=by
  unfold zz;split
  .exact h.next 3
  .exact h.mono (by omega)
 have h2:bC O (MY O t (zz O a c s)) (m+4):=by
  unfold MY;split
  .exact (h1.next 4).mono (by omega)
  .exact h1.mono (by omega)
 have key:∀ (k n:Int) (s':Sr),cm k=0->¬ k=5->(if k=3 then 0<=n/\n<=t - 1 else if k=4 then 0<=n/\n<=a - 1 else n=0)->(c=true->tg k=true)->bC O s' (m+6) ->
   Rt O t a c s=J.mk k n []->K0 O t a c s=s'->a3v O t a d c b left (XA O t a c s l):=by
  intro k n s' hk h5 hn hc hs e1 e2;unfold XA;rw[e1,e2];refine⟨XI _ _ k n hk h5 hn,λ q=>?_,by simp[au,gI];omega,by simp[bm,lj],hs.mono (by omega),by show left - _<=l;omega,by show l<=left;omega⟩;simp[bj,BU,hc q]
 by_cases x:lfX O a c s=true
 .have hx:=x;simp only[lfX,lfA,Bool.and_eq_true,Bool.not_eq_true',decide_eq_true_eq] at hx;obtain⟨⟨Q9,hx2⟩,hx3⟩:=hx;have hp:=h1.pk a;refine key 4 (pk O (zz O a c s) a) (cE O (zz O a c s) a) (by decide) (by decide) ?_ (λ q=>by rw[Q9] at q;cases q) ((h1.next a).mono (by omega)) (by unfold Rt;rw[if_pos x]) (by unfold K0;rw[if_pos x]);rw[if_neg (by decide),if_pos rfl];omega
 .by_cases y:lfY O t (zz O a c s)=true
  .have hy:=y;simp only[lfY,Bool.and_eq_true,Bool.not_eq_true',decide_eq_true_eq] at hy;have hp:=h2.pk t;refine key 3 (pk O (MY O t (zz O a c s)) t) (cE O (MY O t (zz O a c s)) t) (by decide) (by decide) ?_ (λ _=>by decide) ((h2.next t).mono (by omega)) (by unfold Rt;rw[if_neg x,if_pos y]) (by unfold K0;rw[if_neg x,if_pos y]);rw[if_pos rfl];omega
  .have hp:=h2.pk 2;have hv:pk O (MY O t (zz O a c s)) 2=0\/pk O (MY O t (zz O a c s)) 2=1:=by omega
   refine key (1+pk O (MY O t (zz O a c s)) 2) 0 (cE O (MY O t (zz O a c s)) 2) ?_ (by omega) ?_ (λ _=>?_) ((h2.next 2).mono (by omega)) (by unfold Rt;rw[if_neg x,if_neg y]) (by unfold K0;rw[if_neg x,if_neg y])
   .rcases hv with e|e<;>rw[e]<;>decide
   .rw[b5I (by omega),b5I (by omega)]
   .rcases hv with e|e<;>rw[e]<;>decide
def Ny(t a:Int)(x:J)(k:Int)(h:a8 t a x=true)(hk:(k=5/\bj x=true)\/k=8):a8 t a (J.mk k 0 [x])=true:=by
 simp only[a8,iW,lB,h,b7I];rcases hk with ⟨rfl,hc⟩|rfl
 .simp[cm,hc]
 .simp[cm]
def UR(t a:Int)(x y:J)(k:Int)(h1:a8 t a x=true)(h2:a8 t a y=true)(hk:k=6\/k=7):a8 t a (J.mk k 0 [x,y])=true:=by
 simp only[a8,iW,lB,h1,h2,b7I];rcases hk with rfl|rfl<;>simp[cm]
def Iv(O:List Int)(t a:Int)(ht:0<=t/\t<=3)(ha:0<=a/\a<=4):∀ (d:Nat) (c:Bool) (s:Sr) (m left:Int),bC O s m->a3v O t a d c m left (dR O t a d c s left)
 | 0,c,s,m,left,h=>a0k O t a c s m (left - 1) left m 0 (by simp only[wG];omega) h ht ha rfl
 | d+1,c,s,m,left,h=>by
  have hw:=LL d;have hw1:wG (d+1)=1+wG d+wG d:=rfl;unfold dR;by_cases c1:left - 1<1
  .rw[b5Q c1];exact a0k O t a c s m (left - 1) left m (d+1) (by omega) h ht ha rfl
  rw[b5I c1];by_cases c2:pC O s 6=true
  .rw[b5Q c2];exact a0k O t a c _ (m+2) (left - 1) left m (d+1) (by omega) (h.next 6) ht ha rfl
  rw[b5I c2];have h2:bC O (jr O s) (m+4):=((h.next 6).next 10).mono (by omega);by_cases c3:nQ O s=0\/(c=true/\nQ O s<4)
  .rw[b5Q c3];have r:=Iv O t a ht ha d true (jr O s) (m+4) (left - 1) h2;refine⟨Ny _ _ _ 5 r.tr (.inl ⟨rfl,r.cn rfl⟩),λ _=>?_,?_,?_,r.sr.mono (by omega),?_,?_⟩
   .simp[bj,BU,r.cn rfl,tg]
   .have:=r.nd;simp only[au,gI];omega
   .have:=r.dp;simp only[bm,lj];omega
   .have:=r.l0;show left - _<=(dR O t a d true (jr O s) (left - 1)).left;omega
   .have:=r.l1;show (dR O t a d true (jr O s) (left - 1)).left<=left;omega
  rw[b5I c3];by_cases c4:nQ O s<4
  .rw[b5Q c4];have r:=Iv O t a ht ha d false (jr O s) (m+4) (left - 1) h2;refine⟨Ny _ _ _ 8 r.tr (.inr rfl),λ q=>absurd (.inr ⟨q,c4⟩) c3,?_,?_,r.sr.mono (by omega),?_,?_⟩
   .have:=r.nd;simp only[au,gI];omega
   .have:=r.dp;simp only[bm,lj];omega
   .have:=r.l0;show left - _<=(dR O t a d false (jr O s) (left - 1)).left;omega
   .have:=r.l1;show (dR O t a d false (jr O s) (left - 1)).left<=left;omega
  rw[b5I c4];have hS:∀ (x:Sr) (k n:Int),bC O x k->bC O (Iy O c x n) (k+2):=λ x k n q=>by
   unfold Iy;split
   .exact q.mono (by omega)
   .exact q.next n
  have ra:=Iv O t a ht ha d (OG O c (jr O s) 5) (Iy O c (jr O s) 5) (m+4+2) (left - 1) (hS _ _ 5 h2);generalize dR O t a d (OG O c (jr O s) 5) (Iy O c (jr O s) 5) (left - 1)=A at ra;have rb:=Iv O t a ht ha d (OG O c A.s 6) (Iy O c A.s 6) (m+4+2+16 * wG d+2) A.left (hS _ _ 6 ra.sr);simp only;generalize dR O t a d (OG O c A.s 6) (Iy O c A.s 6) A.left=B at rb;have hk:(if nQ O s<6 then (6:Int) else 7)=6\/(if nQ O s<6 then (6:Int) else 7)=7:=by split<;>simp
  generalize (if nQ O s<6 then (6:Int) else 7)=k at hk;refine⟨UR _ _ _ _ k ra.tr rb.tr hk,λ q=>?_,?_,?_,rb.sr.mono (by omega),?_,?_⟩
  .have q1:=ra.cn (by simp[OG,q]);have q2:=rb.cn (by simp[OG,q]);rcases hk with rfl|rfl<;>simp[bj,BU,q1,q2,tg]
  .have:=ra.nd;have:=rb.nd;simp only[au,gI];omega
  .have:=ra.dp;have:=rb.dp;simp only[bm,lj];omega
  .have:=ra.l0;have:=rb.l0;show left - _<=B.left;omega
  .have:=ra.l1;have:=rb.l1;show B.left<=left;omega
def lJ:dZ:=⟨uK,[[.p 1, .d (.int .i64), .d (.int .i64), .d (.int .i64)],[.d (.slice (.int .u8)), .d (.int .i64), .d (.int .u64)]],[.b 0, .v .bool],[[(.int .i64),(.int .i64),(.int .i64)],[(.slice (.int .u8)),(.int .i64),(.int .u64)]],λ (c:Bool) (tn:Int) (an:Int) (left:Int) (O:List Int) (pos:Int) (ar:Int)=>⟨(some (bC O (Sr.mk pos ar) 990000000/\(0<=tn/\tn<=3)/\0<=an/\an<=4),[⟨(.st .expr),Rt O tn an c (Sr.mk pos ar)⟩],[[⟨(.int .i64),tn⟩,⟨(.int .i64),an⟩,⟨(.int .i64),left⟩],[⟨(.slice (.int .u8)),O⟩,⟨(.int .i64),(K0 O tn an c (Sr.mk pos ar)).pos⟩,⟨(.int .u64),(K0 O tn an c (Sr.mk pos ar)).ar⟩]])⟩⟩
def Ft(c:Bool)(tn:Int)(an:Int)(left:Int)(O:List Int)(pos:Int)(ar:Int):Nat->aI:=cf
abbrev Co(c:Bool)(tn:Int)(an:Int)(left:Int)(O:List Int)(pos:Int)(ar:Int):Prop:=(let v3:=tn=tn/\(an=an/\left=left);let v5:=Sr.mk pos ar;let v1:=K0 O tn an c v5;let v4:=Rt O tn an c v5;let v6:=(2:Int);let v7:=(3:Int);let v0:=cE O v5 v7;let v2:=cE O v0 (4:Int);((bC O v5 999999000/\v7<=1000000)/\(((!(pC O v5 v7))=true ->
 (ag an ->
 ((bC O v0 999999000/\an<=1000000)/\((J.mk (4:Int) (pk O v0 an) [])=v4/\(v3/\((O=O/\(((cE O v0 an).pos)=(v1.pos)/\((cE O v0 an).ar)=(v1.ar)))/\True))))))/\((!(pC O v5 v7))=false ->
 (ag tn ->
 (((decide ((0:Int)<tn))=true ->
 ((bC O v0 999999000/\(4:Int)<=1000000)/\(((!(pC O v0 (4:Int)))=true ->
 (ag tn ->
 ((bC O v2 999999000/\tn<=1000000)/\((J.mk v7 (pk O v2 tn) [])=v4/\(v3/\((O=O/\(((cE O v2 tn).pos)=(v1.pos)/\((cE O v2 tn).ar)=(v1.ar)))/\True))))))/\((!(pC O v0 (4:Int)))=false ->
 ((bC O v2 999999000/\v6<=1000000)/\(ag ((1:Int)+(pk O v2 v6))/\((J.mk ((1:Int)+(pk O v2 v6)) (0:Int) [])=v4/\(v3/\((O=O/\(((cE O v2 v6).pos)=(v1.pos)/\((cE O v2 v6).ar)=(v1.ar)))/\True)))))))))/\((decide ((0:Int)<tn))=(!true) ->
 ((false=true ->
 (ag tn ->
 ((bC O v0 999999000/\tn<=1000000)/\((J.mk v7 (pk O v0 tn) [])=v4/\(v3/\((O=O/\(((cE O v0 tn).pos)=(v1.pos)/\((cE O v0 tn).ar)=(v1.ar)))/\True))))))/\(false=false ->
 ((bC O v0 999999000/\v6<=1000000)/\(ag ((1:Int)+(pk O v0 v6))/\((J.mk ((1:Int)+(pk O v0 v6)) (0:Int) [])=v4/\(v3/\((O=O/\(((cE O v0 v6).pos)=(v1.pos)/\((cE O v0 v6).ar)=(v1.ar)))/\True))))))))))))))
abbrev Cp(c:Bool)(tn:Int)(an:Int)(left:Int)(O:List Int)(pos:Int)(ar:Int):Prop:=(let v0:=Sr.mk pos ar;let v1:=K0 O tn an c v0;let v2:=cE O v0 (4:Int);let v3:=tn=tn/\(an=an/\left=left);let v4:=Rt O tn an c v0;let v5:=(2:Int);((false=true ->
 (ag an ->
 ((bC O v0 999999000/\an<=1000000)/\((J.mk (4:Int) (pk O v0 an) [])=v4/\(v3/\((O=O/\(((cE O v0 an).pos)=(v1.pos)/\((cE O v0 an).ar)=(v1.ar)))/\True))))))/\(false=false ->
 (ag tn ->
 (((decide ((0:Int)<tn))=true ->
 ((bC O v0 999999000/\(4:Int)<=1000000)/\(((!(pC O v0 (4:Int)))=true ->
 (ag tn ->
 ((bC O v2 999999000/\tn<=1000000)/\((J.mk (3:Int) (pk O v2 tn) [])=v4/\(v3/\((O=O/\(((cE O v2 tn).pos)=(v1.pos)/\((cE O v2 tn).ar)=(v1.ar)))/\True))))))/\((!(pC O v0 (4:Int)))=false ->
 ((bC O v2 999999000/\v5<=1000000)/\(ag ((1:Int)+(pk O v2 v5))/\((J.mk ((1:Int)+(pk O v2 v5)) (0:Int) [])=v4/\(v3/\((O=O/\(((cE O v2 v5).pos)=(v1.pos)/\((cE O v2 v5).ar)=(v1.ar)))/\True)))))))))/\((decide ((0:Int)<tn))=(!true) ->
 ((false=true ->
 (ag tn ->
 ((bC O v0 999999000/\tn<=1000000)/\((J.mk (3:Int) (pk O v0 tn) [])=v4/\(v3/\((O=O/\(((cE O v0 tn).pos)=(v1.pos)/\((cE O v0 tn).ar)=(v1.ar)))/\True))))))/\(false=false ->
 ((bC O v0 999999000/\v5<=1000000)/\(ag ((1:Int)+(pk O v0 v5))/\((J.mk ((1:Int)+(pk O v0 v5)) (0:Int) [])=v4/\(v3/\((O=O/\(((cE O v0 v5).pos)=(v1.pos)/\((cE O v0 v5).ar)=(v1.ar)))/\True)))))))))))))
def Bp:dZ.Good lJ:=by
 refine⟨aG rT,?_⟩;intro (c:Bool) (tn:Int) (an:Int) (left:Int) (O:List Int) (pos:Int) (ar:Int) (hp:bC O (Sr.mk pos ar) 990000000/\(0<=tn/\tn<=3)/\0<=an/\an<=4);refine dC [] [] [] [iT,de] [] [] [] [] trivial trivial trivial ⟨pI,dB,af⟩ rT BP (Ft c tn an left O pos ar) rfl rfl (let v0:=Co c tn an left O pos ar;let v1:=Cp c tn an left O pos ar;((((!c)=true->(ag an->(((decide ((0:Int)<an))=true->v0)/\((decide ((0:Int)<an))=(!true)->v1))))/\((!c)=(!true)->((false=true->v0)/\(false=(!true)->v1)))))) ?_;have p0:=hp.1.pk 2;have p1:=(hp.1.next 3).pk 2;have p2:=(hp.1.next 4).pk 2;have p3:=((hp.1.next 3).next 4).pk 2;refine⟨λ _ _=>⟨λ _=>⟨?_,λ _ _=>⟨?_,?_,⟨rfl,rfl,rfl⟩,⟨rfl,?_,?_⟩,af⟩,λ _ _=>⟨λ _=>⟨?_,λ _ _=>⟨?_,?_,⟨rfl,rfl,rfl⟩,⟨rfl,?_,?_⟩,af⟩,λ _=>⟨?_,?_,?_,⟨rfl,rfl,rfl⟩,⟨rfl,?_,?_⟩,af⟩⟩,λ _=>⟨λ _ _=>⟨?_,?_,⟨rfl,rfl,rfl⟩,⟨rfl,?_,?_⟩,af⟩,λ _=>⟨?_,?_,?_,⟨rfl,rfl,rfl⟩,⟨rfl,?_,?_⟩,af⟩⟩⟩⟩,λ _=>⟨λ _ _=>⟨?_,?_,⟨rfl,rfl,rfl⟩,⟨rfl,?_,?_⟩,af⟩,λ _ _=>⟨λ _=>⟨?_,λ _ _=>⟨?_,?_,⟨rfl,rfl,rfl⟩,⟨rfl,?_,?_⟩,af⟩,λ _=>⟨?_,?_,?_,⟨rfl,rfl,rfl⟩,⟨rfl,?_,?_⟩,af⟩⟩,λ _=>⟨λ _ _=>⟨?_,?_,⟨rfl,rfl,rfl⟩,⟨rfl,?_,?_⟩,af⟩,λ _=>⟨?_,?_,?_,⟨rfl,rfl,rfl⟩,⟨rfl,?_,?_⟩,af⟩⟩⟩⟩⟩,λ _=>⟨λ _=>⟨?_,λ _ _=>⟨?_,?_,⟨rfl,rfl,rfl⟩,⟨rfl,?_,?_⟩,af⟩,λ _ _=>⟨λ _=>⟨?_,λ _ _=>⟨?_,?_,⟨rfl,rfl,rfl⟩,⟨rfl,?_,?_⟩,af⟩,λ _=>⟨?_,?_,?_,⟨rfl,rfl,rfl⟩,⟨rfl,?_,?_⟩,af⟩⟩,λ _=>⟨λ _ _=>⟨?_,?_,⟨rfl,rfl,rfl⟩,⟨rfl,?_,?_⟩,af⟩,λ _=>⟨?_,?_,?_,⟨rfl,rfl,rfl⟩,⟨rfl,?_,?_⟩,af⟩⟩⟩⟩,λ _=>⟨λ _ _=>⟨?_,?_,⟨rfl,rfl,rfl⟩,⟨rfl,?_,?_⟩,af⟩,λ _ _=>⟨λ _=>⟨?_,λ _ _=>⟨?_,?_,⟨rfl,rfl,rfl⟩,⟨rfl,?_,?_⟩,af⟩,λ _=>⟨?_,?_,?_,⟨rfl,rfl,rfl⟩,⟨rfl,?_,?_⟩,af⟩⟩,λ _=>⟨λ _ _=>⟨?_,?_,⟨rfl,rfl,rfl⟩,⟨rfl,?_,?_⟩,af⟩,λ _=>⟨?_,?_,?_,⟨rfl,rfl,rfl⟩,⟨rfl,?_,?_⟩,af⟩⟩⟩⟩⟩⟩;all_goals try and_intros
 all_goals (try simp only[qj] at *);first|omega|(first|exact bC.mono hp.1 (by decide)|exact bC.mono (hp.1.next _) (by decide)|exact bC.mono ((hp.1.next _).next _) (by decide))|(cases c<;>grind [Rt,K0,lfX,lfY,zz,MY,lfA])
def ql(aR:Int)(h:¬ aR<1):aR.toNat=(aR - 1).toNat+1:=by omega
def SC(aR:Int)(h:¬ aR<1):(wG aR.toNat:Int)=1+2 * (wG (aR - 1).toNat:Int):=by
 rw[ql aR h];simp only[wG];omega
def b0Z(O:List Int)(t a aR left:Int)(c:Bool)(s:Sr)(h:aR<1\/left - 1<1):dR O t a aR.toNat c s left=XA O t a c s (left - 1):=by
 by_cases hd:aR<1
 .rw[show aR.toNat=0 by omega,dR]
 .rw[ql aR hd,dR,b5Q (by omega)]
def b1a(O:List Int)(t a aR left:Int)(c:Bool)(s:Sr)(hd:¬ aR<1)(hl:¬ left - 1<1)(h:pC O s 6=true):dR O t a aR.toNat c s left=XA O t a c (cE O s 6) (left - 1):=by
 rw[ql aR hd,dR,b5I hl,b5Q h]
def b1B{x:Int}{c:Bool}(h2:¬ x=0)(h3:c=false):¬ (x=0\/(c=true/\x<4)):=by
 intro q;rcases q with q|q
 .exact h2 q
 .exact absurd (q.1.symm.trans h3) (by decide)
structure DJ(O:List Int)(aR left:Int)(s:Sr):Prop where
 d:¬ aR<1
 l:¬ left - 1<1
 o:pC O s 6=false
def b1b(O:List Int)(t a aR left:Int)(c:Bool)(s:Sr)(g:DJ O aR left s)(h:nQ O s=0\/(c=true/\nQ O s<4)):dR O t a aR.toNat c s left=⟨J.mk 5 0 [(dR O t a (aR - 1).toNat true (jr O s) (left - 1)).e],(dR O t a (aR - 1).toNat true (jr O s) (left - 1)).s,(dR O t a (aR - 1).toNat true (jr O s) (left - 1)).left⟩:=by
 rw[ql aR g.d,dR,b5I g.l,b5I (by rw[g.o];decide),b5Q h]
def b1c(O:List Int)(t a aR left:Int)(c:Bool)(s:Sr)(g:DJ O aR left s)(h:¬ (nQ O s=0\/(c=true/\nQ O s<4)))(h4:nQ O s<4):dR O t a aR.toNat c s left=⟨J.mk 8 0 [(dR O t a (aR - 1).toNat false (jr O s) (left - 1)).e],(dR O t a (aR - 1).toNat false (jr O s) (left - 1)).s,(dR O t a (aR - 1).toNat false (jr O s) (left - 1)).left⟩:=by
 rw[ql aR g.d,dR,b5I g.l,b5I (by rw[g.o];decide),b5I h,b5Q h4]
def ze(O:List Int)(t a aR left:Int)(c:Bool)(s:Sr):Gn:=dR O t a (aR - 1).toNat (OG O c (jr O s) 5) (Iy O c (jr O s) 5) (left - 1)
def SO(O:List Int)(t a aR:Int)(c:Bool)(r:Gn):Gn:=dR O t a (aR - 1).toNat (OG O c r.s 6) (Iy O c r.s 6) r.left
def gnX(O:List Int)(s:Sr):Int:=if nQ O s<6 then 6 else 7
def a4r(O:List Int)(t a aR left:Int)(c:Bool)(s:Sr)(g:DJ O aR left s)(h4:¬ nQ O s<4):dR O t a aR.toNat c s left=⟨J.mk (gnX O s) 0 [(ze O t a aR left c s).e,(SO O t a aR c (ze O t a aR left c s)).e],(SO O t a aR c (ze O t a aR left c s)).s,(SO O t a aR c (ze O t a aR left c s)).left⟩:=by
 rw[ql aR g.d,dR,b5I g.l,b5I (by rw[g.o];decide),b5I,b5I h4]
 .rfl
 .have:=g.o;intro q;rcases q with q|q<;>omega
structure Zd(O:List Int)(aR left:Int)(s:Sr)(k:Int):Prop where
 s:bC O s (980000000 - 16 * (wG (aR - 1).toNat:Int) - k)
 l0 : -1000000+(wG (aR - 1).toNat:Int)<=left
 l1:left<=1000000
def a1E(O:List Int)(c:Bool)(s:Sr)(n k:Int)(h:bC O s k):bC O (Iy O c s n) (k+2):=by
 unfold Iy;split
 .exact h.mono (by omega)
 .exact h.next n
def b1f(O:List Int)(aR left:Int)(s:Sr)(hd:¬ aR<1)(hs:bC O s (980000000 - 16 * (wG aR.toNat:Int)))(h0 : -1000000+(wG aR.toNat:Int)<=left)(h1:left<=1000000):Zd O aR (left - 1) (jr O s) 8:=by
 have hw:=SC aR hd;have hp:=LL (aR - 1).toNat;exact⟨((hs.next 6).next 10).mono (by omega),by omega,by omega⟩
def b1g(O:List Int)(t a aR left:Int)(c:Bool)(s:Sr)(hd:¬ aR<1)(hs:bC O s (980000000 - 16 * (wG aR.toNat:Int)))(h0 : -1000000+(wG aR.toNat:Int)<=left)(h1:left<=1000000)(ht:0<=t/\t<=3)(ha:0<=a/\a<=4) :
  Zd O aR (ze O t a aR left c s).left (ze O t a aR left c s).s 8:=by
 have hw:=SC aR hd;have hp:=LL (aR - 1).toNat;have r:=Iv O t a ht ha (aR - 1).toNat (OG O c (jr O s) 5) (Iy O c (jr O s) 5) _ (left - 1) (a1E O c _ 5 _ ((hs.next 6).next 10));have e:ze O t a aR left c s=dR O t a (aR - 1).toNat (OG O c (jr O s) 5) (Iy O c (jr O s) 5) (left - 1):=rfl;rw[<-e] at r;have r0:=r.l0;have r1:=r.l1;exact⟨r.sr.mono (by omega),by omega,by omega⟩
def Zd.go{O:List Int}{aR left:Int}{s:Sr}(h:Zd O aR left s 8)(c:Bool)(n:Int):Zd O aR left (Iy O c s n) 0:=⟨(a1E O c s n _ h.s).mono (by omega),h.l0,h.l1⟩
def gT(n:Nat):dZ:=⟨na,[[.p 1, .d (.int .i64), .d (.int .i64), .d (.int .i64)],[.d (.slice (.int .u8)), .d (.int .i64), .d (.int .u64)]],[.b 0, .v .bool, .v (.int .i64)],[[(.int .i64),(.int .i64),(.int .i64)],[(.slice (.int .u8)),(.int .i64),(.int .u64)]],λ (c:Bool) (aR:Int) (tn:Int) (an:Int) (left:Int) (O:List Int) (pos:Int) (ar:Int)=>⟨(some (aR.toNat<n/\bC O (Sr.mk pos ar) (980000000 - 16 * (wG aR.toNat:Int))/\(0<=tn/\tn<=3)/\(0<=an/\an<=4)/\aR<=10 /\ -1000000+(wG aR.toNat:Int)<=left/\left<=1000000),[⟨(.st .expr),(dR O tn an aR.toNat c (Sr.mk pos ar) left).e⟩],[[⟨(.int .i64),tn⟩,⟨(.int .i64),an⟩,⟨(.int .i64),(dR O tn an aR.toNat c (Sr.mk pos ar) left).left⟩],[⟨(.slice (.int .u8)),O⟩,⟨(.int .i64),(dR O tn an aR.toNat c (Sr.mk pos ar) left).s.pos⟩,⟨(.int .u64),(dR O tn an aR.toNat c (Sr.mk pos ar) left).s.ar⟩]])⟩⟩
def sA:dZ:=⟨na,[[.p 1, .d (.int .i64), .d (.int .i64), .d (.int .i64)],[.d (.slice (.int .u8)), .d (.int .i64), .d (.int .u64)]],[.b 0, .v .bool, .v (.int .i64)],[[(.int .i64),(.int .i64),(.int .i64)],[(.slice (.int .u8)),(.int .i64),(.int .u64)]],λ (c:Bool) (aR:Int) (tn:Int) (an:Int) (left:Int) (O:List Int) (pos:Int) (ar:Int)=>⟨(some (bC O (Sr.mk pos ar) (980000000 - 16 * (wG aR.toNat:Int))/\(0<=tn/\tn<=3)/\(0<=an/\an<=4)/\aR<=10 /\ -1000000+(wG aR.toNat:Int)<=left/\left<=1000000),[⟨(.st .expr),(dR O tn an aR.toNat c (Sr.mk pos ar) left).e⟩],[[⟨(.int .i64),tn⟩,⟨(.int .i64),an⟩,⟨(.int .i64),(dR O tn an aR.toNat c (Sr.mk pos ar) left).left⟩],[⟨(.slice (.int .u8)),O⟩,⟨(.int .i64),(dR O tn an aR.toNat c (Sr.mk pos ar) left).s.pos⟩,⟨(.int .u64),(dR O tn an aR.toNat c (Sr.mk pos ar) left).s.ar⟩]])⟩⟩
def Fs(c:Bool)(aR:Int)(tn:Int)(an:Int)(left:Int)(O:List Int)(pos:Int)(ar:Int):Nat->aI:=(fu 100004 (.u (DJ O aR left (Sr.mk pos ar)) [11,12,13,14,15,16,17] [] [6] [(400000, .box [.ptr 400001 0, .aO ⟨(.int .i64),(tn:Int)⟩, .aO ⟨(.int .i64),(an:Int)⟩, .aO ⟨(.int .i64),(left - 1:Int)⟩]),(400001, .box [.aO ⟨(.slice (.int .u8)),(O:List Int)⟩, .aO ⟨(.int .i64),((cE O (Sr.mk pos ar) 6).pos:Int)⟩, .aO ⟨(.int .u64),((cE O (Sr.mk pos ar) 6).ar:Int)⟩])] (fu 100009 (.u (DJ O aR left (Sr.mk pos ar)/\¬ nQ O (Sr.mk pos ar)<4) [37,38,39,40,41] [(7, .aO ⟨(.int .i64),(nQ O (Sr.mk pos ar):Int)⟩)] [6] [(400000, .box [.ptr 400001 0, .aO ⟨(.int .i64),(tn:Int)⟩, .aO ⟨(.int .i64),(an:Int)⟩, .aO ⟨(.int .i64),(left - 1:Int)⟩]),(400001, .box [.aO ⟨(.slice (.int .u8)),(O:List Int)⟩, .aO ⟨(.int .i64),((jr O (Sr.mk pos ar)).pos:Int)⟩, .aO ⟨(.int .u64),((jr O (Sr.mk pos ar)).ar:Int)⟩])] (fu 100012 (.u (DJ O aR left (Sr.mk pos ar)/\¬ nQ O (Sr.mk pos ar)<4) [7] [(8, .aO ⟨(.int .i64),(gnX O (Sr.mk pos ar):Int)⟩)] [6] [(400000, .box [.ptr 400001 0, .aO ⟨(.int .i64),(tn:Int)⟩, .aO ⟨(.int .i64),(an:Int)⟩, .aO ⟨(.int .i64),(left - 1:Int)⟩]),(400001, .box [.aO ⟨(.slice (.int .u8)),(O:List Int)⟩, .aO ⟨(.int .i64),((jr O (Sr.mk pos ar)).pos:Int)⟩, .aO ⟨(.int .u64),((jr O (Sr.mk pos ar)).ar:Int)⟩])] (fu 100013 (.u (DJ O aR left (Sr.mk pos ar)/\¬ nQ O (Sr.mk pos ar)<4) [] [(9, .ptr 9 0)] [6] [(400000, .box [.ptr 400001 0, .aO ⟨(.int .i64),(tn:Int)⟩, .aO ⟨(.int .i64),(an:Int)⟩, .aO ⟨(.int .i64),((ze O tn an aR left c (Sr.mk pos ar)).left:Int)⟩]),(400001, .box [.aO ⟨(.slice (.int .u8)),(O:List Int)⟩, .aO ⟨(.int .i64),((ze O tn an aR left c (Sr.mk pos ar)).s.pos:Int)⟩, .aO ⟨(.int .u64),((ze O tn an aR left c (Sr.mk pos ar)).s.ar:Int)⟩]),(9, .box [.aO ⟨(.int .i64),((ze O tn an aR left c (Sr.mk pos ar)).e.aj:Int)⟩, .aO ⟨(.int .i64),((ze O tn an aR left c (Sr.mk pos ar)).e.aT:Int)⟩, .aC 7000]),(7000, .aC (.st .expr) ((ze O tn an aR left c (Sr.mk pos ar)).e.U:List J))] (fu 100014 (.u (DJ O aR left (Sr.mk pos ar)/\¬ nQ O (Sr.mk pos ar)<4) [0,1,2] [(10, .ptr 10 0)] [6,9,7000] [(400000, .box [.ptr 400001 0, .aO ⟨(.int .i64),(tn:Int)⟩, .aO ⟨(.int .i64),(an:Int)⟩, .aO ⟨(.int .i64),((SO O tn an aR c (ze O tn an aR left c (Sr.mk pos ar))).left:Int)⟩]),(400001, .box [.aO ⟨(.slice (.int .u8)),(O:List Int)⟩, .aO ⟨(.int .i64),((SO O tn an aR c (ze O tn an aR left c (Sr.mk pos ar))).s.pos:Int)⟩, .aO ⟨(.int .u64),((SO O tn an aR c (ze O tn an aR left c (Sr.mk pos ar))).s.ar:Int)⟩]),(10, .box [.aO ⟨(.int .i64),((SO O tn an aR c (ze O tn an aR left c (Sr.mk pos ar))).e.aj:Int)⟩, .aO ⟨(.int .i64),((SO O tn an aR c (ze O tn an aR left c (Sr.mk pos ar))).e.aT:Int)⟩, .aC 7100]),(7100, .aC (.st .expr) ((SO O tn an aR c (ze O tn an aR left c (Sr.mk pos ar))).e.U:List J))] cf) cf)) cf)) cf)) cf)) cf)
abbrev Ci(c:Bool)(aR:Int)(tn:Int)(an:Int)(left:Int)(O:List Int)(pos:Int)(ar:Int):Prop:=(let v0:=Sr.mk pos ar;let v1:=dR O tn an aR.toNat c v0 left;let v2:=cE O v0 (6:Int);((bC O v0 999999000/\(6:Int)<=1000000)/\(((pC O v0 (6:Int))=true ->
 ((bC O v2 990000000/\(0<=tn/\tn<=3)/\0<=an/\an<=4)/\((aV (Rt O tn an c v2))=(v1.e)/\((tn=tn/\(an=an/\(left - (1:Int))=(v1.left)))/\((O=O/\(((K0 O tn an c v2).pos)=(v1.s.pos)/\((K0 O tn an c v2).ar)=(v1.s.ar)))/\True)))))/\((pC O v0 (6:Int))=false ->
 (∃ u1:Unit,(DJ O aR left v0/\((True/\(c=c/\(aR=aR/\(True/\True))))/\((True/\(tn=tn/\(an=an/\((left - (1:Int))=(left - 1)/\True))))/\((O=O/\((v2.pos)=((cE O v0 6).pos)/\((v2.ar)=((cE O v0 6).ar)/\True)))/\(((0:Int)=(0:Int)/\((0:Int)=(0:Int)/\(True/\True)))/\True))))))))))
abbrev Cj(c:Bool)(aR:Int)(tn:Int)(an:Int)(left:Int)(O:List Int)(pos:Int)(ar:Int):Prop:=(let v1:=Sr.mk pos ar;let v0:=dR O tn an aR.toNat c v1 left;((true=true ->
 ((bC O v1 990000000/\(0<=tn/\tn<=3)/\0<=an/\an<=4)/\((aV (Rt O tn an c v1))=(v0.e)/\((tn=tn/\(an=an/\(left - (1:Int))=(v0.left)))/\((O=O/\(((K0 O tn an c v1).pos)=(v0.s.pos)/\((K0 O tn an c v1).ar)=(v0.s.ar)))/\True)))))/\(true=false ->
 (∃ u1:Unit,(DJ O aR left v1/\((True/\(c=c/\(aR=aR/\(True/\True))))/\((True/\(tn=tn/\(an=an/\((left - (1:Int))=(left - 1)/\True))))/\((O=O/\(pos=((cE O v1 6).pos)/\(ar=((cE O v1 6).ar)/\True)))/\(((0:Int)=(0:Int)/\((0:Int)=(0:Int)/\(True/\True)))/\True)))))))))
abbrev Ck(n:Nat)(c:Bool)(aR:Int)(tn:Int)(an:Int)(left:Int)(O:List Int)(pos:Int)(ar:Int):Prop:=(let v1:=dR O tn an aR.toNat c (Sr.mk pos ar) left;let v2:=aR - (1:Int);let v3:=cE O (cE O (Sr.mk pos ar) 6) (10:Int);let v0:=dR O tn an v2.toNat true v3 (left - 1);(ag v2/\((v2.toNat<n/\bC O v3 (980000000 - 16 * (wG v2.toNat:Int))/\(0<=tn/\tn<=3)/\(0<=an/\an<=4)/\v2<=10 /\ -1000000+(wG v2.toNat:Int)<=(left - 1)/\(left - 1)<=1000000)/\((J.mk (5:Int) (0:Int) ([(aV (v0.e))]))=(v1.e)/\((tn=tn/\(an=an/\(v0.left)=(v1.left)))/\((O=O/\((v0.s.pos)=(v1.s.pos)/\(v0.s.ar)=(v1.s.ar)))/\True))))))
abbrev Cl(n:Nat)(c:Bool)(aR:Int)(tn:Int)(an:Int)(left:Int)(O:List Int)(pos:Int)(ar:Int):Prop:=(let v1:=Sr.mk pos ar;let v2:=cE O (cE O v1 6) (10:Int);let v3:=dR O tn an aR.toNat c v1 left;let v4:=aR - (1:Int);let v0:=dR O tn an v4.toNat false v2 (left - 1);let v5:=pk O (cE O v1 6) (10:Int);(((decide (v5<(4:Int)))=true ->
 (ag v4/\((v4.toNat<n/\bC O v2 (980000000 - 16 * (wG v4.toNat:Int))/\(0<=tn/\tn<=3)/\(0<=an/\an<=4)/\v4<=10 /\ -1000000+(wG v4.toNat:Int)<=(left - 1)/\(left - 1)<=1000000)/\((J.mk (8:Int) (0:Int) ([(aV (v0.e))]))=(v3.e)/\((tn=tn/\(an=an/\(v0.left)=(v3.left)))/\((O=O/\((v0.s.pos)=(v3.s.pos)/\(v0.s.ar)=(v3.s.ar)))/\True))))))/\((decide (v5<(4:Int)))=false ->
 (∃ u2:Unit,((DJ O aR left v1/\¬ nQ O v1<4)/\((True/\(c=c/\(aR=aR/\(True/\(v5=(nQ O v1)/\True)))))/\((True/\(tn=tn/\(an=an/\((left - 1)=(left - 1)/\True))))/\((O=O/\((v2.pos)=((jr O v1).pos)/\((v2.ar)=((jr O v1).ar)/\True)))/\(((0:Int)=(0:Int)/\((0:Int)=(0:Int)/\(True/\True)))/\True)))))))))
abbrev Cm(tn:Int)(an:Int)(left:Int)(O:List Int)(pos:Int)(ar:Int):Prop:=(let v0:=jr O (Sr.mk pos ar);((True/\(tn=tn/\(an=an/\((left - 1)=(left - 1)/\True))))/\((O=O/\((v0.pos)=(v0.pos)/\((v0.ar)=(v0.ar)/\True)))/\(((0:Int)=(0:Int)/\((0:Int)=(0:Int)/\(True/\True)))/\True))))
abbrev Cn(c:Bool)(aR:Int)(tn:Int)(an:Int)(left:Int)(O:List Int)(pos:Int)(ar:Int):Prop:=(let v0:=ze O tn an aR left c (Sr.mk pos ar);(((v0.e.aj)=(v0.e.aj)/\((v0.e.aT)=(v0.e.aT)/\(True/\True)))/\((v0.e.U)=(v0.e.U)/\(((0:Int)=(0:Int)/\((0:Int)=(0:Int)/\(True/\True)))/\True))))
def Ec(n:Nat)(hE:bu [])(hO:la [qI])(hM:nb [])(hS:j8 [iT,de,lJ,gT n]):dZ.Good (gT (n+1)):=by
 refine⟨aG ij,?_⟩;intro (c:Bool) (aR:Int) (tn:Int) (an:Int) (left:Int) (O:List Int) (pos:Int) (ar:Int) (hp:aR.toNat<n+1/\bC O (Sr.mk pos ar) (980000000 - 16 * (wG aR.toNat:Int))/\(0<=tn/\tn<=3)/\(0<=an/\an<=4)/\aR<=10 /\ -1000000+(wG aR.toNat:Int)<=left/\left<=1000000);refine dC [] [qI] [] [iT,de,lJ,gT n] [36,55,56,64,65,80,92,96] [] [] [] hE hO hM hS ij BN (Fs c aR tn an left O pos ar) rfl rfl (let v1:=Sr.mk pos ar;let v0:=ze O tn an aR left c v1;let v5:=SO O tn an aR c v0;let v6:=DJ O aR left v1/\¬ nQ O v1<4;let v9:=Sr.mk (v0.s.pos) (v0.s.ar);let vb:=Ck n c aR tn an left O pos ar;let vc:=Cl n c aR tn an left O pos ar;let vd:=True/\True;let ve:=dR O tn an aR.toNat c v1 left;let vf:=pk O (cE O v1 6) (10:Int);let vg:=gnX O v1;let vi:=True/\(c=c/\(aR=aR/\(True/\(vg=vg/\vd))));let vj:=0<=tn/\tn<=3;let vk:=0<=an/\an<=4;let vm:=Ci c aR tn an left O pos ar;let vn:=Cj c aR tn an left O pos ar;let vo:=Cn c aR tn an left O pos ar;let vp:=jr O v1;let vq:=(1:Int);let v4:=aR - vq;let va:=(wG v4.toNat:Int);let vl:=980000000 - 16 * va;let vr:=Cm tn an left O pos ar;let vs:=v0.left;let v7:=dR O tn an v4.toNat true v9 vs;let vt:=True/\(vg=vg/\(True/\vd));let vu:=(6:Int);let v2:=dR O tn an v4.toNat (pC O v9 vu) (cE O v9 vu) vs;let vv:=left - 1;let v3:=dR O tn an v4.toNat (pC O vp (5:Int)) (cE O vp (5:Int)) vv;let v8:=dR O tn an v4.toNat true vp vv;let vw:=(0:Int);let vh:=(vw=vw/\(vw=vw/\vd))/\True;((ag left->(ag (left - vq)/\((ag (left - vq)->(((decide ((left - vq)<vq))=false->(((decide (aR<vq))=false->vm)/\((decide (aR<vq))=(!false)->vn)))/\((decide ((left - vq)<vq))=(!false)->((true=false->vm)/\(true=(!false)->vn)))))/\(∀ u1:Unit,(DJ O aR left v1->((bC O (cE O v1 6) 999999000/\(10:Int)<=1000000)/\((((decide (vf=vw))=false->((c=true->(((decide (vf<(4:Int)))=true->vb)/\((decide (vf<(4:Int)))=false->vc)))/\(c=(!true)->((false=true->vb)/\(false=false->vc)))))/\((decide (vf=vw))=(!false)->((true=true->vb)/\(true=false->vc))))/\(∀ u2:Unit,(v6->((((decide ((nQ O v1)<vu))=true->(∃ u3:Unit,(v6/\((True/\(c=c/\(aR=aR/\(True/\(vu=vg/\True)))))/\vr))))/\((decide ((nQ O v1)<vu))=false->(∃ u3:Unit,(v6/\((True/\(c=c/\(aR=aR/\(True/\((7:Int)=vg/\True)))))/\vr)))))/\(∀ u3:Unit,(v6->(((c=false->((bC O vp 999999000/\(5:Int)<=1000000)/\(ag v4/\((v4.toNat<n/\bC O (cE O vp (5:Int)) vl/\vj/\vk/\v4<=10 /\ -1000000+va<=vv/\vv<=1000000)/\(∃ u4:Unit,(v6/\(vi/\((True/\(tn=tn/\(an=an/\((v3.left)=vs/\True))))/\((O=O/\((v3.s.pos)=(v0.s.pos)/\((v3.s.ar)=(v0.s.ar)/\True)))/\(((v3.e).aj=(v0.e.aj)/\((v3.e).aT=(v0.e.aT)/\vd))/\((v3.e).U=(v0.e.U)/\vh)))))))))))/\(c=(!false)->(ag v4/\((v4.toNat<n/\bC O vp vl/\vj/\vk/\v4<=10 /\ -1000000+va<=vv/\vv<=1000000)/\(∃ u4:Unit,(v6/\(vi/\((True/\(tn=tn/\(an=an/\((v8.left)=vs/\True))))/\((O=O/\((v8.s.pos)=(v0.s.pos)/\((v8.s.ar)=(v0.s.ar)/\True)))/\(((v8.e).aj=(v0.e.aj)/\((v8.e).aT=(v0.e.aT)/\vd))/\((v8.e).U=(v0.e.U)/\vh)))))))))))/\(∀ u4:Unit,(v6->(((c=false->((bC O v9 999999000/\vu<=1000000)/\(ag v4/\((v4.toNat<n/\bC O (cE O v9 vu) vl/\vj/\vk/\v4<=10 /\ -1000000+va<=vs/\vs<=1000000)/\(∃ u5:Unit,(v6/\(vt/\((True/\(tn=tn/\(an=an/\((v2.left)=(v5.left)/\True))))/\((O=O/\((v2.s.pos)=(v5.s.pos)/\((v2.s.ar)=(v5.s.ar)/\True)))/\(((v2.e).aj=(v5.e.aj)/\((v2.e).aT=(v5.e.aT)/\vd))/\((v2.e).U=(v5.e.U)/\vo)))))))))))/\(c=(!false)->(ag v4/\((v4.toNat<n/\bC O v9 vl/\vj/\vk/\v4<=10 /\ -1000000+va<=vs/\vs<=1000000)/\(∃ u5:Unit,(v6/\(vt/\((True/\(tn=tn/\(an=an/\((v7.left)=(v5.left)/\True))))/\((O=O/\((v7.s.pos)=(v5.s.pos)/\((v7.s.ar)=(v5.s.ar)/\True)))/\(((v7.e).aj=(v5.e.aj)/\((v7.e).aT=(v5.e.aT)/\vd))/\((v7.e).U=(v5.e.U)/\vo)))))))))))/\(∀ u5:Unit,(v6->((aV (J.mk vg 0 [(J.mk (v0.e.aj) (v0.e.aT) (v0.e.U)),(J.mk (v5.e.aj) (v5.e.aT) (v5.e.U))]))=(ve.e)/\((tn=tn/\(an=an/\(v5.left)=(ve.left)))/\((O=O/\((v5.s.pos)=(ve.s.pos)/\(v5.s.ar)=(ve.s.ar)))/\True))))))))))))))))))))))) ?_;obtain⟨bp,hs,ht,ha,b5t,XM,ON⟩:=hp;have hw:=LL aR.toNat;have hwd:=SC aR;have ES:=λ hd=>b1f O aR left (Sr.mk pos ar) hd hs XM ON;have wv:=λ hd=>b1g O tn an aR left c (Sr.mk pos ar) hd hs XM ON ht ha;refine λ _=>⟨?_,λ a1=>⟨λ _=>⟨λ _=>⟨?_,λ a4=>⟨?_,?_,⟨rfl,rfl,?_⟩,⟨rfl,?_,?_⟩,af⟩,λ a4=>⟨(),?_,⟨af,rfl,rfl,af,af⟩,⟨af,rfl,rfl,?_,af⟩,⟨rfl,?_,?_,af⟩,⟨rfl,rfl,af,af⟩,af⟩⟩,λ _=>⟨λ a4=>⟨?_,?_,⟨rfl,rfl,?_⟩,⟨rfl,?_,?_⟩,af⟩,λ a4=>⟨(),?_,⟨af,rfl,rfl,af,af⟩,⟨af,rfl,rfl,?_,af⟩,⟨rfl,?_,?_,af⟩,⟨rfl,rfl,af,af⟩,af⟩⟩⟩,λ _=>⟨λ _=>⟨?_,λ a4=>⟨?_,?_,⟨rfl,rfl,?_⟩,⟨rfl,?_,?_⟩,af⟩,λ a4=>⟨(),?_,⟨af,rfl,rfl,af,af⟩,⟨af,rfl,rfl,?_,af⟩,⟨rfl,?_,?_,af⟩,⟨rfl,rfl,af,af⟩,af⟩⟩,λ _=>⟨λ a4=>⟨?_,?_,⟨rfl,rfl,?_⟩,⟨rfl,?_,?_⟩,af⟩,λ a4=>⟨(),?_,⟨af,rfl,rfl,af,af⟩,⟨af,rfl,rfl,?_,af⟩,⟨rfl,?_,?_,af⟩,⟨rfl,rfl,af,af⟩,af⟩⟩⟩⟩,λ u1 a1=>have a1l:=a1.d;have a1m:=hwd a1.d;have a1n:=ES a1.d;have a8T:=(ES a1.d).l0;have b4X:=(ES a1.d).l1;⟨?_,⟨λ _=>⟨λ _=>⟨λ a4=>⟨?_,?_,?_,⟨rfl,rfl,?_⟩,⟨rfl,?_,?_⟩,af⟩,λ a4=>⟨λ _=>⟨?_,?_,?_,⟨rfl,rfl,?_⟩,⟨rfl,?_,?_⟩,af⟩,λ _=>⟨(),?_,⟨af,rfl,rfl,af,?_,af⟩,⟨af,rfl,rfl,rfl,af⟩,⟨rfl,?_,?_,af⟩,⟨rfl,rfl,af,af⟩,af⟩⟩⟩,λ _=>⟨λ a4=>⟨?_,?_,?_,⟨rfl,rfl,?_⟩,⟨rfl,?_,?_⟩,af⟩,λ a4=>⟨λ _=>⟨?_,?_,?_,⟨rfl,rfl,?_⟩,⟨rfl,?_,?_⟩,af⟩,λ _=>⟨(),?_,⟨af,rfl,rfl,af,?_,af⟩,⟨af,rfl,rfl,rfl,af⟩,⟨rfl,?_,?_,af⟩,⟨rfl,rfl,af,af⟩,af⟩⟩⟩⟩,λ _=>⟨λ _=>⟨?_,?_,?_,⟨rfl,rfl,?_⟩,⟨rfl,?_,?_⟩,af⟩,λ _=>⟨λ a4=>⟨?_,?_,?_,⟨rfl,rfl,?_⟩,⟨rfl,?_,?_⟩,af⟩,λ a4=>⟨(),?_,⟨af,rfl,rfl,af,?_,af⟩,⟨af,rfl,rfl,rfl,af⟩,⟨rfl,?_,?_,af⟩,⟨rfl,rfl,af,af⟩,af⟩⟩⟩⟩,λ u2 _=>⟨⟨λ _=>⟨(),?_,⟨af,rfl,rfl,af,?_,af⟩,⟨af,rfl,rfl,rfl,af⟩,⟨rfl,rfl,rfl,af⟩,⟨rfl,rfl,af,af⟩,af⟩,λ _=>⟨(),?_,⟨af,rfl,rfl,af,?_,af⟩,⟨af,rfl,rfl,rfl,af⟩,⟨rfl,rfl,rfl,af⟩,⟨rfl,rfl,af,af⟩,af⟩⟩,λ u3 _=>⟨⟨λ a4=>⟨?_,?_,?_,(),?_,⟨af,rfl,rfl,af,rfl,af,af⟩,⟨af,rfl,rfl,?_,af⟩,⟨rfl,?_,?_,af⟩,⟨?_,?_,af,af⟩,?_,⟨rfl,rfl,af,af⟩,af⟩,λ a4=>⟨?_,?_,(),?_,⟨af,rfl,rfl,af,rfl,af,af⟩,⟨af,rfl,rfl,?_,af⟩,⟨rfl,?_,?_,af⟩,⟨?_,?_,af,af⟩,?_,⟨rfl,rfl,af,af⟩,af⟩⟩,λ u4 a4=>have a8U:=wv a4.1.d;have b2A:=(wv a4.1.d).l0;have b2B:=(wv a4.1.d).l1;⟨⟨λ _=>⟨?_,?_,?_,(),?_,⟨af,rfl,af,af,af⟩,⟨af,rfl,rfl,?_,af⟩,⟨rfl,?_,?_,af⟩,⟨?_,?_,af,af⟩,?_,⟨rfl,rfl,af,af⟩,rfl,⟨rfl,rfl,af,af⟩,af⟩,λ _=>⟨?_,?_,(),?_,⟨af,rfl,af,af,af⟩,⟨af,rfl,rfl,?_,af⟩,⟨rfl,?_,?_,af⟩,⟨?_,?_,af,af⟩,?_,⟨rfl,rfl,af,af⟩,rfl,⟨rfl,rfl,af,af⟩,af⟩⟩,λ u5 _=>⟨?_,⟨rfl,rfl,?_⟩,⟨rfl,?_,?_⟩,af⟩⟩⟩⟩⟩⟩;all_goals try and_intros
 all_goals try (first|with_reducible rfl|with_reducible assumption)
 all_goals try simp only[J.eta,aE.eta,aQ,bq] at *
 all_goals (try simp only[qj,J.eta,decide_eq_true_eq,decide_eq_false_iff_not,Bool.not_true,Bool.not_false,ag] at *);first|rfl|trivial|omega|with_reducible assumption|exact hs.mono (by omega)|exact (hs.next _).mono (by omega)|exact DJ.mk (by omega) (by omega) (by assumption)|exact bC.mono (Zd.s (by assumption)) (by omega)|exact bC.mono (bC.next (Zd.s (by assumption)) _) (by omega)|(rw[b0Z O tn an aR left c _ (by omega)];rfl)|(rw[b1a O tn an aR left c _ (by omega) (by omega) (by assumption)];rfl)|(rw[b1b O tn an aR left c _ (by assumption) (by first|(left;assumption)|(right;exact⟨by assumption,by assumption⟩))];rfl)|(rw[b1c O tn an aR left c _ (by assumption) (b1B (by assumption) (by assumption)) (by assumption)];rfl)|(rw[a4r O tn an aR left c _ (And.left (show DJ O aR left (Sr.mk pos ar)/\¬ nQ O (Sr.mk pos ar)<4 by assumption)) (And.right (show DJ O aR left (Sr.mk pos ar)/\¬ nQ O (Sr.mk pos ar)<4 by assumption))];rfl)|(unfold gnX;first|rw[if_pos (by assumption)]|rw[if_neg (by assumption)])|(cases c<;>first|rfl|contradiction)|contradiction |(rw[a4r O tn an aR left c _ (And.left (show DJ O aR left (Sr.mk pos ar)/\¬ nQ O (Sr.mk pos ar)<4 by assumption)) (And.right (show DJ O aR left (Sr.mk pos ar)/\¬ nQ O (Sr.mk pos ar)<4 by assumption))])
def Tu:∀ n,j8 [gT n]
 | 0=>⟨⟨aG ij,λ _ _ _ _ _ _ _ _ h=>absurd h.1 (b6H _)⟩,af⟩
 | n+1=>by
  have ih:=Tu n;exact⟨Ec n trivial ⟨Hf,af⟩ trivial ⟨pI,dB,Bp,ih.1,af⟩,af⟩
def Bo:dZ.Good sA :=
 ⟨aG ij,λ c aR tn an left O pos ar hp=>(Tu (aR.toNat+1)).1.2 c aR tn an left O pos ar (⟨b6g _,hp⟩)⟩
def yy:dZ:=⟨Ba,[[.d (.slice (.int .u8)), .d (.int .i64), .d (.int .u64)]],[.b 0, .v (.st .sig), .v (.int .i64)],[[(.slice (.int .u8)),(.int .i64),(.int .u64)]],λ (gg:aD) (n:Int) (O:List Int) (pos:Int) (ar:Int)=>⟨(some ((bC O (Sr.mk pos ar) 890000000/\sigOk gg=true)/\0<=n/\n<=1000),[⟨(.st .expr),(dR O gg.aY gg.aB 6 false (Sr.mk pos ar) n).e⟩],[[⟨(.slice (.int .u8)),O⟩,⟨(.int .i64),(dR O gg.aY gg.aB 6 false (Sr.mk pos ar) n).s.pos⟩,⟨(.int .u64),(dR O gg.aY gg.aB 6 false (Sr.mk pos ar) n).s.ar⟩]])⟩⟩
def K5(gg:aD)(n:Int)(O:List Int)(pos:Int)(ar:Int):Nat->aI:=cf
def FZ:dZ.Good yy:=by
 refine⟨aG xX,?_⟩;intro (gg:aD) (n:Int) (O:List Int) (pos:Int) (ar:Int) (hp:(bC O (Sr.mk pos ar) 890000000/\sigOk gg=true)/\0<=n/\n<=1000);refine dC [] [] [] [sA] [14] [] [] [4] trivial trivial trivial ⟨Bo,af⟩ xX GP (K5 gg n O pos ar) rfl rfl (let v0:=dR O gg.aY gg.aB (6:Int).toNat false (Sr.mk pos ar) n;let v1:=dR O gg.aY gg.aB 6 false (Sr.mk pos ar) n;(((bC O (Sr.mk pos ar) (980000000 - 16 * (wG (6:Int).toNat:Int))/\(0<=gg.aY/\gg.aY<=3)/\(0<=gg.aB/\gg.aB<=4)/\(6:Int)<=10 /\ -1000000+(wG (6:Int).toNat:Int)<=n/\n<=1000000)/\((aV (v0.e))=(v1.e)/\((O=O/\((v0.s.pos)=(v1.s.pos)/\(v0.s.ar)=(v1.s.ar)))/\True))))) ?_;have hg:=(dt gg).1 hp.1.2;have hw:wG (Int.toNat 6)=127:=rfl;refine⟨?_,⟨?_,⟨⟨rfl,⟨?_,?_⟩⟩,af⟩⟩⟩;all_goals try and_intros
 all_goals try (first|with_reducible rfl|with_reducible assumption)
 all_goals try simp only[J.eta,aE.eta,aQ,bq] at *
 all_goals (try simp only[qj,J.eta,b5K,b5L] at *);first|rfl|trivial|omega|exact hp.1.1.mono (by omega)
def eG(O:List Int):aD:=Qt O (Sr.mk 0 0)
def eR(O:List Int):Gn:=dR O (eG O).aY (eG O).aB 6 false (Qu O (Sr.mk 0 0)) 10
def eX(O:List Int):J:=(eR O).e
structure EF(O:List Int):Prop where
 g:sigOk (eG O)=true
 s0:bC O (Sr.mk 0 0) 800000000
 s1:bC O (Qu O (Sr.mk 0 0)) 800000000
 ok:iQ (eG O) (eX O)=true
def e_f(O:List Int)(hb:cX O)(hl:O.length<=1000000):EF O:=by
 have q0:bC O (Sr.mk 0 0) 0:=⟨hb,by decide,by decide,hl,by decide,by decide⟩;obtain⟨g,q1⟩:=b0O O (Sr.mk 0 0) 0 q0;have g:sigOk (eG O)=true:=g;have hg:=(dt _).1 g;have hx:=Iv O _ _ hg.1 hg.2 6 false (Qu O (Sr.mk 0 0)) _ 10 q1;have hw:wG 6=127:=rfl;refine⟨g,q0.mono (by decide),q1.mono (by decide),?_⟩;rw[iQ,g,b7x,AL,iG _ (by omega),iG _ (by omega)];have n1:=hx.nd;have n2:=hx.dp;exact⟨hx.tr,by show au (dR _ _ _ _ _ _ _).e<=_;omega,by show bm (dR _ _ _ _ _ _ _).e<=_;omega⟩
mutual
def cU(ts as_:List J):J->J
 | ⟨k,n,ks⟩=>if k=3 then ts.getD n.toNat zE else if k=4 then as_.getD n.toNat zE else ⟨k,n,Xv ts as_ ks⟩
def Xv(ts as_:List J):List J->List J
 | []=>[]
 | x::xs=>cU ts as_ x::Xv ts as_ xs
end
mutual
def topE:J->Int×Int
 | ⟨k,n,ks⟩=>if k=3 then (n+1,0) else if k=4 then (0,n+1) else topEs ks
def topEs:List J->Int×Int
 | []=>(0,0)
 | x::xs=>(max (topE x).1 (topEs xs).1,max (topE x).2 (topEs xs).2)
end
def T8(ts as_:List J):∀ xs,Xv ts as_ xs=xs.map (cU ts as_)
 | []=>by rw[Xv];rfl
 | x::xs=>by rw[Xv,T8 ts as_ xs];rfl
def VC(ts as_:List J)(x:J):cU ts as_ x=if x.aj=3 then ts.getD x.aT.toNat zE else if x.aj=4 then as_.getD x.aT.toNat zE else ⟨x.aj,x.aT,x.U.map (cU ts as_)⟩:=by
 cases x with
 | mk k n ks=>rw[cU,T8]
def Bs(x:J):topE x=if x.aj=3 then (x.aT+1,0) else if x.aj=4 then (0,x.aT+1) else topEs x.U:=by
 cases x with
 | mk k n ks=>rw[topE]
structure ly(ts as_:List J)(x:J):Prop where
 t:(topE x).1<=(ts.length:Int)
 a:(topE x).2<=(as_.length:Int)
def Gi(ts as_:List J)(xs:List J):Prop:=(topEs xs).1<=(ts.length:Int)/\(topEs xs).2<=(as_.length:Int)
def VB(ts as_:List J)(x:J)(xs:List J):Gi ts as_ (x::xs)↔ly ts as_ x/\Gi ts as_ xs:=by
 have e:ly ts as_ x↔(topE x).1<=(ts.length:Int)/\(topE x).2<=(as_.length:Int):=⟨λ h=>⟨h.t,h.a⟩,λ h=>⟨h.1,h.2⟩⟩;rw[e];unfold Gi;rw[topEs];dsimp only;omega
def ZM{ts as_:List J}{x:J}(h:ly ts as_ x)(h3:¬ x.aj=3)(h4:¬ x.aj=4):Gi ts as_ x.U:=by
 have h1:=h.t;have h2:=h.a;rw[Bs,b5I h3,b5I h4] at h1 h2;exact⟨h1,h2⟩
def Gj{ts as_:List J}:∀ {xs:List J},Gi ts as_ xs->∀ x∈xs,ly ts as_ x
 | [],_,_,h=>by cases h
 | y::ys,h,x,hx=>by
  rw[VB] at h;rcases b5X.1 hx with rfl|hx
  .exact h.1
  .exact Gj h.2 x hx
def a7O{ts as_:List J}{x:J}(h:ly ts as_ x)(h3:x.aj=3):x.aT<(ts.length:Int):=by
 have:=h.t;rw[Bs,if_pos h3] at this;dsimp only at this;omega
def a7N{ts as_:List J}{x:J}(h:ly ts as_ x)(h4:x.aj=4):x.aT<(as_.length:Int):=by
 have:=h.a;rw[Bs,if_neg (by omega),if_pos h4] at this;dsimp only at this;omega
def inK(x:J)(k:Int):Bool:=decide (0<=k/\k<=(x.U.length:Int) - 1)
def isN(x:J):Bool:=decide (x.aj=5)
def xc:J->List Int->Bool
 | _,[]=>true
 | x,k::ks=>inK x k&&xc (x.U.getD k.toNat zE) ks
def uV:J->List Int->J
 | x,[]=>x
 | x,k::ks=>uV (x.U.getD k.toNat zE) ks
def RJ:J->List Int->Bool
 | _,[]=>false
 | x,k::ks=>isN x||RJ (x.U.getD k.toNat zE) ks
def Ym(k:Int):∀ (ks:List Int) (x:J),xc x (ks++[k])=(xc x ks&&inK (uV x ks) k)/\uV x (ks++[k])=(uV x ks).U.getD k.toNat zE/\RJ x (ks++[k])=(RJ x ks||isN (uV x ks))
 | [],x=>⟨by simp[xc,uV],rfl,by simp[RJ,uV]⟩
 | j::ks,x=>by
  obtain⟨h1,h2,h3⟩:=Ym k ks (x.U.getD j.toNat zE);simp only[b6x,xc,uV,RJ,h1,h2,h3,b9Q,Bool.or_assoc,and_self]
def Yn(x:J)(ks:List Int)(k:Nat)(h:k<ks.length):xc x (ks.take (k+1))=(xc x (ks.take k)&&inK (uV x (ks.take k)) (ks.getD k 0)) /\
  uV x (ks.take (k+1))=(uV x (ks.take k)).U.getD (ks.getD k 0).toNat zE/\RJ x (ks.take (k+1))=(RJ x (ks.take k)||isN (uV x (ks.take k))):=by
 rw[gL 0 ks k h];exact Ym _ _ _
def a1U:∀ (ks js:List Int) (x:J),xc x (ks++js)=(xc x ks&&xc (uV x ks) js)
 | [],js,x=>by simp[xc,uV]
 | k::ks,js,x=>by simp only[b6x,xc,uV,a1U ks js,b9Q]
def a8n(x:J)(ks:List Int)(k:Nat)(h:xc x (ks.take k)=false):xc x ks=false:=by
 conv=>lhs;rw[<-b7l k ks]
 rw[a1U,h,b8b]
def a1V(x:J)(ks:List Int)(k:Nat)(h:ks.length<=k):xc x (ks.take k)=xc x ks/\uV x (ks.take k)=uV x ks/\RJ x (ks.take k)=RJ x ks:=by
 rw[b6J h];exact⟨rfl,rfl,rfl⟩
structure LR(x:J)(ks:List Int)(k:Nat):Prop where
 le:k<=ks.length
 ok:xc x (ks.take k)=true
def LR.zero(x:J)(ks:List Int):LR x ks 0:=⟨b6L _,rfl⟩
def LR.bad{x:J}{ks:List Int}{k:Nat}(h:LR x ks k)(hk:k<ks.length)(hb:¬ (0<=ks.getD k 0/\ks.getD k 0<=((uV x (ks.take k)).U.length:Int) - 1)):xc x ks=false :=
 a8n x ks (k+1) (by rw[(Yn x ks k hk).1,show inK (uV x (ks.take k)) (ks.getD k 0)=false from b6f hb,b8x])
def LR.next{x:J}{ks:List Int}{k:Nat}(h:LR x ks k)(hk:k<ks.length)(hb:0<=ks.getD k 0/\ks.getD k 0<=((uV x (ks.take k)).U.length:Int) - 1):LR x ks (k+1) :=
 ⟨hk,by rw[(Yn x ks k hk).1,show inK (uV x (ks.take k)) (ks.getD k 0)=true from b6I hb,h.ok];rfl⟩
def LR.done{x:J}{ks:List Int}{k:Nat}(h:LR x ks k)(hk:ks.length<=k):xc x ks=true:=by rw[<-(a1V x ks k hk).1];exact h.ok
def mg:bc:=⟨Cw,[.v (.int .i64), .v (.int .i64)],λ (k:Int) (m:Int)=>⟨(none,[⟨(.st .expr),J.mk k m []⟩])⟩⟩
def V8(k:Int)(m:Int):Nat->aI:=cf
def nz:bc.Good mg:=by
 refine⟨aG rl,?_⟩;intro (k:Int) (m:Int) _;refine bo [] [] [] [] trivial rl C3 (V8 k m) ((J.mk k m [])=(J.mk k m [])) ?_;refine rfl;all_goals try and_intros
 all_goals first|rfl|trivial|omega|(simp only[b5K,b5L,aJ,ag,ca,ei,cY,bn] at *;omega)|(simp[aJ,ag] at *;omega)|grind
def mh:bc:=⟨Cy,[.v (.int .i64), .v (.slice (.st .expr))],λ (k:Int) (ks:List J)=>⟨(none,[⟨(.st .expr),J.mk k 0 ks⟩])⟩⟩
def Wa(k:Int)(ks:List J):Nat->aI:=cf
def nA:bc.Good mh:=by
 refine⟨aG rn,?_⟩;intro (k:Int) (ks:List J) _;refine bo [] [] [] [] trivial rn C4 (Wa k ks) ((J.mk k (0:Int) ks)=(J.mk k 0 ks)) ?_;refine ?_;all_goals try and_intros
 all_goals first|rfl|trivial|omega|(simp only[b5K,b5L,aJ,ag,ca,ei,cY,bn] at *;omega)|(simp[aJ,ag] at *;omega)|grind
def ndV(x:J)(ps:List Int):J:=bif xc x ps then uV x ps else J.mk (0:Int) (0:Int) []
def ndW(x:J)(ps:List Int):Bool:=xc x ps&&RJ x ps
def LR.no{x:J}{ks:List Int}{k:Nat}(h:LR x ks k)(hk:k<ks.length)(hb:¬ (0<=ks.getD k 0/\ks.getD k 0<=((uV x (ks.take k)).U.length:Int) - 1)):ndV x ks=J.mk (0:Int) (0:Int) []/\ndW x ks=false/\xc x ks=false:=by
 have:=h.bad hk hb;unfold ndV ndW;rw[this];exact⟨rfl,rfl,rfl⟩
def LR.yes{x:J}{ks:List Int}{k:Nat}(h:LR x ks k)(hk:ks.length<=k):ndV x ks=uV x (ks.take k)/\ndW x ks=RJ x (ks.take k)/\xc x ks=true:=by
 have:=h.done hk;have e:=a1V x ks k hk;unfold ndV ndW;rw[this,e.2.1,e.2.2];exact⟨rfl,rfl,rfl⟩
def Gy{t a:Int}{x:J}(h:a8 t a x=true)(i:Nat)(hi:i<x.U.length):a8 t a (x.U.getD i zE)=true:=by
 rw[eH,b5M] at h;have hm:x.U.getD i zE∈x.U:=by
  rw[b5P,b6e hi];exact b7a _
 have:∀ xs:List J,bH (a8 t a) xs=true->∀ y∈xs,a8 t a y=true:=by
  intro xs;induction xs with
  | nil=>intro _ y hy;cases hy
  | cons z zs ih =>
   intro h y hy;simp only[bH,b5M] at h;rcases b5X.1 hy with rfl|hy
   .exact h.1
   .exact ih h.2 y hy
 exact this _ h.2 _ hm
def a0T{t a:Int}{x:J}(h:a8 t a x=true):x.U.length<=2:=by
 rw[eH,Bool.and_eq_true] at h;have h1:=h.1;unfold lB at h1;simp only[Bool.and_eq_true,decide_eq_true_eq] at h1;have h2:=h1.1.1;unfold cm at h2;split at h2
 .omega
 .split at h2
  .omega
  .split at h2<;>omega
def oJ{x:J}(h:a8 62 62 x=true)(hk:x.aj=3\/x.aj=4):0<=x.aT/\x.aT<=62:=by
 rw[eH,Bool.and_eq_true] at h;have h1:=h.1;unfold lB at h1;rcases hk with hk|hk<;>simp[hk] at h1<;>omega
def Oq:∀ (xs:List J) (y:J),topEs (xs++[y])=(max (topEs xs).1 (topE y).1,max (topEs xs).2 (topE y).2)
 | [],y=>by
  rw[b6B];simp only[topEs];rw[Int.max_comm,Int.max_comm (topE y).2]
 | x::xs,y=>by
  rw[b6x,topEs,Oq xs y,topEs];simp only[Int.max_assoc]
def Ot(x:J)(i:Nat)(hi:i<x.U.length):topEs (x.U.take (i+1))=(max (topEs (x.U.take i)).1 (topE (x.U.getD i zE)).1,max (topEs (x.U.take i)).2 (topE (x.U.getD i zE)).2):=by
 rw[gL zE x.U i hi,Oq]
def a6p(x:J)(h:x.aj=3):topE x=(x.aT+1,0):=by rw[Bs,b5Q h]
def a6q(x:J)(h3:¬ x.aj=3)(h:x.aj=4):topE x=(0,x.aT+1):=by rw[Bs,b5I h3,b5Q h]
def a0S(x:J)(h3:¬ x.aj=3)(h:¬ x.aj=4)(i:Nat)(hi:x.U.length<=i):topE x=topEs (x.U.take i):=by rw[Bs,b5I h3,b5I h,b6J hi]
def b3u{ts as_:List J}{x:J}(h:x.aj=3):cU ts as_ x=ts.getD x.aT.toNat zE:=by rw[VC,b5Q h]
def b3v{ts as_:List J}{x:J}(h3:¬ x.aj=3)(h:x.aj=4):cU ts as_ x=as_.getD x.aT.toNat zE:=by rw[VC,b5I h3,b5Q h]
def b3w{ts as_:List J}{x:J}(h3:¬ x.aj=3)(h:¬ x.aj=4)(i:Nat)(hi:x.U.length<=i):cU ts as_ x=J.mk x.aj x.aT ((x.U.take i).map (cU ts as_)):=by rw[VC,b5I h3,b5I h,b6J hi]
def Xx(ts as_:List J)(x:J)(i:Nat)(hi:i<x.U.length):(x.U.take (i+1)).map (cU ts as_)=(x.U.take i).map (cU ts as_)++[cU ts as_ (x.U.getD i zE)]:=by
 rw[gL zE x.U i hi];simp
def a2M{ts as_:List J}{x:J}(h:ly ts as_ x)(h3:¬ x.aj=3)(h4:¬ x.aj=4)(i:Nat)(hi:i<x.U.length):ly ts as_ (x.U.getD i zE) :=
 Gj (ZM h h3 h4) _ (by
  rw[b5P,b6e hi];exact b7a _)
structure JB(ts as_:List J):Prop where
 t:∀ y∈ts,ep y<=1048576
 a:∀ y∈as_,ep y<=1048576
def JB.gt{ts as_:List J}(h:JB ts as_){n:Int}(h0:0<=n)(h1:n<(ts.length:Int)):ep (ts.getD n.toNat zE)<=1048576:=h.t _ (by
 rw[b5P,b6e (by omega)];exact b7a _)
def JB.ga{ts as_:List J}(h:JB ts as_){n:Int}(h0:0<=n)(h1:n<(as_.length:Int)):ep (as_.getD n.toNat zE)<=1048576:=h.a _ (by
 rw[b5P,b6e (by omega)];exact b7a _)
mutual
def LG:∀ x:J,a8 62 62 x=true->(0<=(topE x).1/\(topE x).1<=63)/\0<=(topE x).2/\(topE x).2<=63
 | ⟨k,n,ks⟩=>λ h=>by
  have h1:=oJ h;rw[a8,Bool.and_eq_true] at h;have h2:=JA ks h.2;rw[topE];dsimp only at h1;by_cases h3:k=3
  .have:=h1 (.inl h3);rw[if_pos h3];dsimp only;omega
  .by_cases h4:k=4
   .have:=h1 (.inr h4);rw[if_neg h3,if_pos h4];dsimp only;omega
   .rw[b5I h3,b5I h4];exact h2
def JA:∀ xs:List J,iW 62 62 xs=true->(0<=(topEs xs).1/\(topEs xs).1<=63)/\0<=(topEs xs).2/\(topEs xs).2<=63
 | []=>λ _=>by rw[topEs];dsimp only;omega
 | x::xs=>λ h=>by
  rw[iW,Bool.and_eq_true] at h;have h1:=LG x h.1;have h2:=JA xs h.2;rw[topEs];dsimp only;omega
end
def LI{t a:Int}:∀ (xs:List J) (i:Nat),iW t a xs=true->iW t a (xs.take i)=true
 | _,0,_=>by rw[b7K];rfl
 | [],i+1,_=>by rw[List.take_nil];rfl
 | x::xs,i+1,h=>by
  rw[iW,b5M] at h;rw[b8F,iW,h.1,LI xs i h.2];rfl
def Nx(x:J)(h:a8 62 62 x=true)(i:Nat):(0<=(topEs (x.U.take i)).1/\(topEs (x.U.take i)).1<=63)/\0<=(topEs (x.U.take i)).2/\(topEs (x.U.take i)).2<=63:=by
 cases x with
 | mk k n ks =>
  rw[a8,b5M] at h;exact JA _ (LI ks i h.2)
def rz(n:Nat):bc:=⟨Cv,[.v (.st .expr)],λ (x:J)=>⟨(some (bG x<n/\a8 62 62 x=true),[⟨(.int .i64),(topE x).1⟩,⟨(.int .i64),(topE x).2⟩])⟩⟩
def KV:bc:=⟨Cv,[.v (.st .expr)],λ (x:J)=>⟨(some (a8 62 62 x=true),[⟨(.int .i64),(topE x).1⟩,⟨(.int .i64),(topE x).2⟩])⟩⟩
def V7(x:J):Nat->aI:=(fu 1 (.b (Nat) (λ i=>i<=x.U.length) (λ i=>x.U.length - i) [0,1,2,3,10,11,12,13,17,18,22] (λ i=>[(25, .aO ⟨(.int .i64),((i:Int):Int)⟩),(4, .aO ⟨(.int .i64),((topEs (x.U.take i)).1:Int)⟩),(5, .aO ⟨(.int .i64),((topEs (x.U.take i)).2:Int)⟩)])) cf)
def Te(n:Nat)(hE:bu [rz n]):bc.Good (rz (n+1)):=by
 refine⟨aG rj,?_⟩;intro (x:J) (hp:bG x<n+1/\a8 62 62 x=true);refine bo [rz n] [] [] [1] hE rj OA (V7 x) (let v0:=(x.U.length:Int);let v1:=x.aT+(1:Int);((ag x.aj->(((decide (x.aj=(3:Int)))=true->(ag x.aT->(ag v1/\(v1=((topE x).1)/\(0:Int)=((topE x).2)))))/\((decide (x.aj=(3:Int)))=false->(((decide (x.aj=(4:Int)))=true->(ag v1/\(ag x.aT->((0:Int)=((topE x).1)/\v1=((topE x).2)))))/\((decide (x.aj=(4:Int)))=false->(x.U.length<=140737488355328->(ag v0->((∃ i1:Nat,(i1<=x.U.length/\(((0:Int)=((topEs (x.U.take i1)).1)/\((0:Int)=((topEs (x.U.take i1)).2)/\(x.U=x.U/\(v0=v0/\((0:Int)=(i1:Int)/\True)))))/\True)))/\(∀ i1:Nat,let v2:=aV (x.U.getD i1 zE);let v3:=topEs (x.U.take i1);let v4:=topE v2;(i1<=x.U.length->(((decide ((i1:Int)<v0))=true->(aJ (i1:Int) x.U.length/\((bG v2<n/\a8 62 62 v2=true)/\(ag (v4.1)->(ag (v4.2)->(ag (max (v3.1) (v4.1))->(ag (max (v3.2) (v4.2))->(ag ((i1:Int)+(1:Int))/\(∃ i2:Nat,(i2<=x.U.length/\(x.U.length - i2<x.U.length - i1/\(((max (v3.1) (v4.1))=((topEs (x.U.take i2)).1)/\((max (v3.2) (v4.2))=((topEs (x.U.take i2)).2)/\(x.U=x.U/\(v0=v0/\(((i1:Int)+(1:Int))=(i2:Int)/\True)))))/\True))))))))))))/\((decide ((i1:Int)<v0))=false->((v3.1)=((topE x).1)/\(v3.2)=((topE x).2)))))))))))))))) ?_;have f0:=λ i (h:i<x.U.length)=>cz zE x.U i h;have f1:=fh x;have f2:topEs (x.U.take 0)=(0,0):=by rw[b7K];rfl
 refine λ _=>⟨λ _ _=>⟨?_,?_,?_⟩,λ _=>⟨λ _=>⟨?_,λ _=>⟨?_,?_⟩⟩,λ _ _ _=>⟨⟨0,?_,⟨?_,?_,rfl,rfl,?_,af⟩,af⟩,λ i1 _=>⟨λ _=>⟨?_,?_,λ _ _ _ _=>⟨?_,i1+1,?_,?_,⟨?_,?_,rfl,rfl,?_,af⟩,af⟩⟩,λ _=>⟨?_,?_⟩⟩⟩⟩⟩;all_goals try and_intros
 all_goals try (first|with_reducible rfl|with_reducible assumption)
 all_goals try simp only[J.eta,aE.eta,aQ,bq] at *
 all_goals first|with_reducible rfl|with_reducible assumption|exact True.intro|(simp only[b5V,b5O,b5U,b5T] at *;done)|((try simp only[b6B,J.eta,b5K,b5L,b5U,b5T,b6j,b6A,aJ,ag,bn,b5Y,b5S,b6d,b6G,b6T] at *);first|exact True.intro|omega|(rw[f2];done)|(rw[a6p x (by with_reducible assumption)];done)|(rw[a6q x (by with_reducible assumption) (by with_reducible assumption)];done)|(have h1:=oJ hp.2 (.inl (by with_reducible assumption));omega)|(have h1:=oJ hp.2 (.inr (by with_reducible assumption));omega)|(rw[a0S x (by with_reducible assumption) (by with_reducible assumption) i1 (by omega)];done)|exact Gy hp.2 _ (by omega)|(have h1:=f0 i1 (by omega);omega)|(rw[Ot x i1 (by omega)];done)|(have h1:=LG _ (Gy hp.2 i1 (by omega));have h2:=Nx x hp.2 i1;omega))
def P4 :∀ n,bu [rz n]
 | 0=>⟨⟨aG rj,λ _ h=>absurd h.1 (b6H _)⟩,af⟩
 | n+1=>by
  have ih:=P4  n;exact⟨Te n ⟨ih.1,af⟩,af⟩
def OH :bc.Good KV :=
 ⟨aG rj,λ x hp=>(P4  (bG x+1)).1.2 x (⟨b6g _,hp⟩)⟩
def mu(n:Nat):bc:=⟨wW,[.v (.st .expr), .v (.slice (.st .expr)), .v (.slice (.st .expr))],λ (x:J) (ts:List J) (as_:List J)=>⟨(some (bG x<n/\ly ts as_ x/\a8 62 62 x=true/\JB ts as_),[⟨(.st .expr),cU ts as_ x⟩])⟩⟩
def Dn:bc:=⟨wW,[.v (.st .expr), .v (.slice (.st .expr)), .v (.slice (.st .expr))],λ (x:J) (ts:List J) (as_:List J)=>⟨(some (ly ts as_ x/\a8 62 62 x=true/\JB ts as_),[⟨(.st .expr),cU ts as_ x⟩])⟩⟩
def Pa(x:J)(ts:List J)(as_:List J):Nat->aI:=(fu 1 (.a (Nat) (λ i=>i<=x.U.length) (λ i=>x.U.length - i) [0,3,10,11,12,13,14,15,16,17,24,25,26,27,28,29,30,31,38,39,40,41,42,43] (λ i=>[(46, .aO ⟨(.int .i64),((i:Int):Int)⟩)]) [6] (λ i=>[(7, .box [.aO ⟨(.int .i64),(x.aj:Int)⟩, .aO ⟨(.int .i64),(x.aT:Int)⟩, .aC 5800]),(5800, .aC (.st .expr) ((x.U.take i).map (cU ts as_):List J))])) cf)
abbrev yo(x:J)(ts:List J)(as_:List J):Prop:=(let v0:=ts.getD (Int.toNat x.aT) zE;(ag x.aT ->
 (aJ x.aT ts.length/\(ep v0<=1048576/\(aV v0)=(cU ts as_ x)))))
abbrev yp(x:J)(ts:List J)(as_:List J):Prop:=(let v0:=as_.getD (Int.toNat x.aT) zE;(ag x.aT ->
 (aJ x.aT as_.length/\(ep v0<=1048576/\(aV v0)=(cU ts as_ x)))))
abbrev yq(n:Nat)(x:J)(ts:List J)(as_:List J):Prop:=(let v0:=(x.U.length:Int);let v1:=((0:Int)=(0:Int)/\((0:Int)=(0:Int)/\(True/\True)))/\True;let v2:=(7:Nat)=7/\(2:Nat)=2;let v3:=x.aj=x.aj/\(x.aT=x.aT/\(True/\True));let v4:=cU ts as_;(ag x.aj ->
 (ag x.aT ->
 (x.U.length<=140737488355328 ->
 (ag v0 ->
 ((∃ i1:Nat,(i1<=x.U.length/\((ts=ts/\(as_=as_/\(True/\(True/\(x.U=x.U/\(v0=v0/\((0:Int)=(i1:Int)/\True)))))))/\(v3/\(((x.U.take i1).map v4)=[]/\v1)))))/\(∀ i1:Nat,let v5:=x.U.getD i1 zE;let v6:=(x.U.take i1).map v4;let v7:=[(aV (cU ts as_ (aV v5)))];(i1<=x.U.length ->
 (((decide ((i1:Int)<v0))=true ->
 (aJ (i1:Int) x.U.length/\(ts.length<=140737488355328 ->
 (as_.length<=140737488355328 ->
 (v2/\((5800:Nat)=5800/\((v5.aj=v5.aj/\(v5.aT=v5.aT/\(v5.U=v5.U/\True)))/\(ts=ts/\(as_=as_/\((bG (aV v5)<n/\ly ts as_ (aV v5)/\a8 62 62 (aV v5)=true/\JB ts as_)/\(v2/\((5800:Nat)=5800/\(v2/\((5800:Nat)=5800/\(bn (v6.length+v7.length) 40/\(ag ((i1:Int)+(1:Int))/\(∃ i2:Nat,(i2<=x.U.length/\(x.U.length - i2<x.U.length - i1/\((ts=ts/\(as_=as_/\(True/\(True/\(x.U=x.U/\(v0=v0/\(((i1:Int)+(1:Int))=(i2:Int)/\True)))))))/\(v3/\((v6++v7)=((x.U.take i2).map v4)/\v1))))))))))))))))))))))/\((decide ((i1:Int)<v0))=false ->
 (J.mk x.aj x.aT v6)=(cU ts as_ x)))))))))))
abbrev yr(n:Nat)(x:J)(ts:List J)(as_:List J):Prop:=(ag x.aj ->
 (((decide (x.aj=(4:Int)))=true ->
 (1<=as_.length/\((true=true ->
 (yp x ts as_))/\(true=false ->
 (yq n x ts as_)))))/\((decide (x.aj=(4:Int)))=(!true) ->
 ((false=true ->
 (yp x ts as_))/\(false=false ->
 (yq n x ts as_))))))
def Nd(n:Nat)(hE:bu [])(hO:la [mu n,fL])(hM:nb [])(hS:j8 []):bc.iY (mu (n+1)):=by
 refine⟨aG ns,?_⟩;intro (x:J) (ts:List J) (as_:List J) (hp:bG x<n+1/\ly ts as_ x/\a8 62 62 x=true/\JB ts as_);refine eO [] [mu n,fL] [] [] [23,37,55,56,57] [] [] [3] hE hO hM hS ns JU (Pa x ts as_) ((ag x.aj->(((decide (x.aj=(3:Int)))=true->(1<=ts.length/\((true=true->(yo x ts as_))/\(true=false->(yr n x ts as_)))))/\((decide (x.aj=(3:Int)))=(!true)->((false=true->(yo x ts as_))/\(false=false->(yr n x ts as_))))))) ?_;obtain⟨hm,g0,g1,g2⟩:=hp;have f0:=λ i (h:i<x.U.length)=>cz zE x.U i h;have f1:=fh x;have f2:(x.U.take 0).map (cU ts as_)=[]:=by simp
 have f3:=a0T g1;refine λ _=>⟨λ _=>⟨?_,λ _ _=>⟨?_,?_,?_⟩,λ _ _=>⟨λ _=>⟨?_,λ _ _=>⟨?_,?_,?_⟩,λ _ _ _ _ _=>⟨⟨0,?_,⟨rfl,rfl,af,af,rfl,rfl,?_,af⟩,⟨rfl,rfl,af,af⟩,?_,⟨rfl,rfl,af,af⟩,af⟩,λ i1 _=>⟨λ _=>⟨?_,λ _ _=>⟨⟨?_,?_⟩,?_,⟨rfl,rfl,rfl,?_⟩,rfl,rfl,?_,⟨?_,?_⟩,?_,⟨?_,?_⟩,?_,?_,?_,i1+1,?_,?_,⟨rfl,rfl,af,af,rfl,rfl,?_,af⟩,⟨rfl,rfl,af,af⟩,?_,⟨rfl,rfl,af,af⟩,af⟩⟩,λ _=>?_⟩⟩⟩,λ _=>⟨λ _ _=>⟨?_,?_,?_⟩,λ _ _ _ _ _=>⟨⟨0,?_,⟨rfl,rfl,af,af,rfl,rfl,?_,af⟩,⟨rfl,rfl,af,af⟩,?_,⟨rfl,rfl,af,af⟩,af⟩,λ i1 _=>⟨λ _=>⟨?_,λ _ _=>⟨⟨?_,?_⟩,?_,⟨rfl,rfl,rfl,?_⟩,rfl,rfl,?_,⟨?_,?_⟩,?_,⟨?_,?_⟩,?_,?_,?_,i1+1,?_,?_,⟨rfl,rfl,af,af,rfl,rfl,?_,af⟩,⟨rfl,rfl,af,af⟩,?_,⟨rfl,rfl,af,af⟩,af⟩⟩,λ _=>?_⟩⟩⟩⟩⟩,λ _=>⟨λ _ _=>⟨?_,?_,?_⟩,λ _ _=>⟨λ _=>⟨?_,λ _ _=>⟨?_,?_,?_⟩,λ _ _ _ _ _=>⟨⟨0,?_,⟨rfl,rfl,af,af,rfl,rfl,?_,af⟩,⟨rfl,rfl,af,af⟩,?_,⟨rfl,rfl,af,af⟩,af⟩,λ i1 _=>⟨λ _=>⟨?_,λ _ _=>⟨⟨?_,?_⟩,?_,⟨rfl,rfl,rfl,?_⟩,rfl,rfl,?_,⟨?_,?_⟩,?_,⟨?_,?_⟩,?_,?_,?_,i1+1,?_,?_,⟨rfl,rfl,af,af,rfl,rfl,?_,af⟩,⟨rfl,rfl,af,af⟩,?_,⟨rfl,rfl,af,af⟩,af⟩⟩,λ _=>?_⟩⟩⟩,λ _=>⟨λ _ _=>⟨?_,?_,?_⟩,λ _ _ _ _ _=>⟨⟨0,?_,⟨rfl,rfl,af,af,rfl,rfl,?_,af⟩,⟨rfl,rfl,af,af⟩,?_,⟨rfl,rfl,af,af⟩,af⟩,λ i1 _=>⟨λ _=>⟨?_,λ _ _=>⟨⟨?_,?_⟩,?_,⟨rfl,rfl,rfl,?_⟩,rfl,rfl,?_,⟨?_,?_⟩,?_,⟨?_,?_⟩,?_,?_,?_,i1+1,?_,?_,⟨rfl,rfl,af,af,rfl,rfl,?_,af⟩,⟨rfl,rfl,af,af⟩,?_,⟨rfl,rfl,af,af⟩,af⟩⟩,λ _=>?_⟩⟩⟩⟩⟩⟩;all_goals try and_intros
 all_goals try (first|with_reducible rfl|with_reducible assumption)
 all_goals try simp only[J.eta,aE.eta,aQ,bq] at *
 all_goals first|with_reducible rfl|with_reducible assumption|exact True.intro|(simp only[b5V,b5O,b5U,b5T] at *;done)|((try simp only[b6B,J.eta,b5K,b5L,b5U,b5T,b6j,b6A,aJ,ag,bn,b5Y,b5S,b6d,b6G,b6T] at *);first|exact True.intro|omega|(rw[f2];done)|(rw[b3u (by with_reducible assumption)];done)|(rw[b3v (by with_reducible assumption) (by with_reducible assumption)];done)|(have h1:=oJ g1 (.inl (by with_reducible assumption));have h2:=a7O g0 (by with_reducible assumption);first|omega|exact g2.gt h1.1 h2)|(have h1:=oJ g1 (.inr (by with_reducible assumption));have h2:=a7N g0 (by with_reducible assumption);first|omega|exact g2.ga h1.1 h2)|(rw[b3w (by with_reducible assumption) (by with_reducible assumption) i1 (by omega)];done)|exact Gy g1 _ (by omega)|(have h1:=f0 i1 (by omega);omega)|exact a2M g0 (by with_reducible assumption) (by with_reducible assumption) i1 (by omega)|exact Xx _ _ _ _ (by omega)|exact (Xx _ _ _ _ (by omega)).symm)
def NJ:∀ n,la [mu n]
 | 0=>⟨⟨aG ns,λ _ _ _ h=>absurd h.1 (b6H _)⟩,af⟩
 | n+1=>by
  have ih:=NJ n;exact⟨Nd n trivial ⟨ih.1,sJ,af⟩ trivial trivial,af⟩
def Jf:bc.iY Dn :=
 ⟨aG ns,λ x ts as_ hp=>(NJ (bG x+1)).1.2 x ts as_ (⟨b6g _,hp⟩)⟩
def insV(gg:aD)(x:J)(ts as_:List J):J:=bif isE gg (cU ts as_ x) then cU ts as_ x else J.mk (0:Int) (0:Int) []
def insC(gg:aD)(x:J)(ts as_:List J):Int:=bif isE gg (cU ts as_ x) then 0 else 3
def V4{gg:aD}{x:J}{ts as_:List J}(h:isE gg (cU ts as_ x)=true):insV gg x ts as_=cU ts as_ x/\insC gg x ts as_=0:=by unfold insV insC;rw[h];exact⟨rfl,rfl⟩
def a4U{gg:aD}{x:J}{ts as_:List J}(h:isE gg (cU ts as_ x)=false):insV gg x ts as_=J.mk (0:Int) (0:Int) []/\insC gg x ts as_=3:=by unfold insV insC;rw[h];exact⟨rfl,rfl⟩
def pq:bc:=⟨A4,[.v (.st .sig), .v (.st .expr), .v (.slice (.st .expr)), .v (.slice (.st .expr))],λ (gg:aD) (x:J) (ts:List J) (as_:List J)=>⟨(some (ly ts as_ x/\a8 62 62 x=true/\JB ts as_/\ts.length<=1000/\as_.length<=1000),[⟨(.st .expr),insV gg x ts as_⟩,⟨(.int .i64),insC gg x ts as_⟩])⟩⟩
def K2(gg:aD)(x:J)(ts:List J)(as_:List J):Nat->aI:=cf
abbrev G8(gg:aD)(x:J)(ts:List J)(as_:List J):Prop:=(let v0:=aV (cU ([]++ts) ([]++as_) x);(x=x/\(as_=as_/\(bn ((@List.nil J).length+as_.length) 40/\(x=x/\((ly ([]++ts) ([]++as_) x/\a8 62 62 x=true/\JB ([]++ts) ([]++as_))/\(((!(isE gg v0))=true ->
 (zE=(insV gg x ts as_)/\(3:Int)=(insC gg x ts as_)))/\((!(isE gg v0))=false ->
 (v0=(insV gg x ts as_)/\(0:Int)=(insC gg x ts as_))))))))))
def FQ:bc.iY pq:=by
 refine⟨aG xQ,?_⟩;intro (gg:aD) (x:J) (ts:List J) (as_:List J) (hp:ly ts as_ x/\a8 62 62 x=true/\JB ts as_/\ts.length<=1000/\as_.length<=1000);refine eO [lF] [Dn] [] [] [18] [] [] [4,5] ⟨kU,af⟩ ⟨Jf,af⟩ trivial trivial xQ GH (K2 gg x ts as_) (let v1:=(@List.nil J).length+ts.length;let v2:=G8 gg x ts as_;let v0:=x=x/\(ts=ts/\(as_=as_/\(bn v1 40/\v2)));((ts.length<=140737488355328->(as_.length<=140737488355328->(x=x/\(ts=ts/\(as_=as_/\((x=x/\(ts=ts/\(as_=as_/\((bn v1 40/\(x=x/\(as_=as_/\v2)))/\(v0/\True)))))/\((x=x/\(ts=ts/\(as_=as_/\v0)))/\True))))))))) ?_;refine λ _ _=>⟨rfl,rfl,rfl,⟨rfl,rfl,rfl,⟨?_,rfl,rfl,rfl,rfl,?_,rfl,?_,λ _=>⟨?_,?_⟩,λ _=>⟨?_,?_⟩⟩,⟨rfl,rfl,rfl,?_,rfl,rfl,?_,rfl,?_,λ _=>⟨?_,?_⟩,λ _=>⟨?_,?_⟩⟩,af⟩,⟨rfl,rfl,rfl,rfl,rfl,rfl,?_,rfl,rfl,?_,rfl,?_,λ _=>⟨?_,?_⟩,λ _=>⟨?_,?_⟩⟩,af⟩;all_goals try and_intros
 all_goals try (first|with_reducible rfl|with_reducible assumption)
 all_goals try simp only[J.eta,aE.eta,aQ,bq] at *
 all_goals first|with_reducible rfl|with_reducible assumption|exact True.intro|omega|((first|have Q:=V4 (gg:=gg) (x:=x) (ts:=ts) (as_:=as_) (by with_reducible assumption)|have Q:=a4U (gg:=gg) (x:=x) (ts:=ts) (as_:=as_) (by with_reducible assumption));first|exact Q.1|exact Q.2|exact Q.1.symm|exact Q.2.symm)|exact hp.1|exact hp.2.1|exact hp.2.2.1|(simp only[b6B,J.eta,b5K,b5L,b5U,b5T,b6j,b6A,aJ,ag,bn,b5Y,b5S,b6d,b6G,b6T] at *;first|omega|((first|have Q:=V4 (gg:=gg) (x:=x) (ts:=ts) (as_:=as_) (by with_reducible assumption)|have Q:=a4U (gg:=gg) (x:=x) (ts:=ts) (as_:=as_) (by with_reducible assumption));first|exact Q.1|exact Q.2|exact Q.1.symm|exact Q.2.symm))
def qb:bc:=⟨qf,[.v (.slice (.st .expr))],λ (xs:List J)=>⟨(none,[⟨.bool,bH bj xs⟩])⟩⟩
def D4(xs:List J):Nat->aI:=(fu 0 (.b (Nat) (λ k=>k<=xs.length/\bH bj (xs.take k)=true) (λ k=>xs.length - k) [0] (λ k=>[(7, .aO ⟨(.int .i64),((k:Int):Int)⟩)])) cf)
def zg:bc.Good qb:=by
 refine⟨aG oT,?_⟩;intro (xs:List J) _;refine bo [fY] [] [] [] ⟨jN,af⟩ oT yQ (D4 xs) (let v0:=(xs.length:Int);((ag v0->((∃ k1:Nat,((k1<=xs.length/\bH bj (xs.take k1)=true)/\((xs=xs/\(v0=v0/\((0:Int)=(k1:Int)/\True)))/\True)))/\(∀ k1:Nat,let v1 := !(bj (aV (xs.getD k1 zE)));((k1<=xs.length/\bH bj (xs.take k1)=true)->(((decide ((k1:Int)<v0))=true->(aJ (k1:Int) xs.length/\((v1=true->false=(bH bj xs))/\(v1=false->(ag ((k1:Int)+(1:Int))/\(∃ k2:Nat,((k2<=xs.length/\bH bj (xs.take k2)=true)/\(xs.length - k2<xs.length - k1/\((xs=xs/\(v0=v0/\(((k1:Int)+(1:Int))=(k2:Int)/\True)))/\True)))))))))/\((decide ((k1:Int)<v0))=false->true=(bH bj xs))))))))) ?_;have f1:=all_zero bj xs;refine λ _=>⟨⟨0,?_,⟨rfl,rfl,?_,af⟩,af⟩,λ k1 _=>have a1l:=dM bj zE xs k1;have a1m:=eK bj zE xs k1;have a1n:=eE bj xs k1;⟨λ _=>⟨?_,λ _=>?_,λ _=>⟨?_,k1+1,?_,?_,⟨rfl,rfl,?_,af⟩,af⟩⟩,λ _=>?_⟩⟩;all_goals try and_intros
 all_goals try (first|with_reducible rfl|with_reducible assumption)
 all_goals try simp only[J.eta,aE.eta,aQ,bq] at *
 all_goals first|rfl|trivial|(simp only[b5K,b5L,aJ,ag] at *;omega)|(simp_all;done)|(simp_all [aJ,ag];omega)
def a3r{t a:Int}{x:J}(h:a8 t a x=true):cm x.aj=(x.U.length:Int):=by
 rw[eH,Bool.and_eq_true] at h;have h1:=h.1;unfold lB at h1;simp only[Bool.and_eq_true,decide_eq_true_eq] at h1;exact h1.1.1
def xK(t:Int)(e:J)(i:Nat):Int:=max (max t (if e.aj=3 then e.aT+1 else 0)) (topEs (e.U.take i)).1
def zR(a:Int)(e:J)(i:Nat):Int:=max (max a (if e.aj=4 then e.aT+1 else 0)) (topEs (e.U.take i)).2
def LJ{x:J}(h:a8 62 62 x=true)(hk:x.aj=3\/x.aj=4):x.U=[]:=by
 have:=a3r h;rcases hk with hk|hk<;>rw[hk] at this<;>simp[cm] at this<;>exact b6S (by omega)
def b4A(t a:Int)(e:J):xK t e 0=max t (max (if e.aj=3 then e.aT+1 else 0) 0)/\zR a e 0=max a (max (if e.aj=4 then e.aT+1 else 0) 0):=by
 unfold xK zR;rw[List.take_zero,topEs];dsimp only;omega
def b4C(t a:Int)(e:J)(i:Nat)(hi:i<e.U.length):xK t e (i+1)=max (xK t e i) (topE (e.U.getD i zE)).1/\zR a e (i+1)=max (zR a e i) (topE (e.U.getD i zE)).2:=by
 unfold xK zR;rw[Ot e i hi];dsimp only;omega
def b4B(t a:Int)(e:J)(i:Nat)(h:a8 62 62 e=true)(hi:e.U.length<=i)(ht:0<=t)(ha:0<=a):xK t e i=max t (topE e).1/\zR a e i=max a (topE e).2:=by
 unfold xK zR;have hn:=oJ h;by_cases h3:e.aj=3
 .have:=hn (.inl h3);rw[if_pos h3,if_neg (show ¬ e.aj=4 by omega),LJ h (.inl h3),List.take_nil,topEs,a6p e h3];dsimp only;omega
 .by_cases h4:e.aj=4
  .have:=hn (.inr h4);rw[if_neg h3,if_pos h4,LJ h (.inr h4),List.take_nil,topEs,a6q e h3 h4];dsimp only;omega
  .have:=Nx e h i;rw[b5I h3,b5I h4,<-a0S e h3 h4 i hi];rw[<-a0S e h3 h4 i hi] at this;omega
def b2j(t a:Int)(e:J)(i:Nat)(h:a8 62 62 e=true)(ht:0<=t/\t<=1000)(ha:0<=a/\a<=1000):(0<=xK t e i/\xK t e i<=1000)/\0<=zR a e i/\zR a e i<=1000:=by
 have h1:=Nx e h i;have hn:=oJ h;unfold xK zR;have:(if e.aj=3 then e.aT+1 else 0)<=63:=by
  split
  .rename_i q;have:=hn (.inl q);omega
  .omega
 have:(if e.aj=4 then e.aT+1 else 0)<=63:=by
  split
  .rename_i q;have:=hn (.inr q);omega
  .omega
 omega
def mw(n:Nat):dZ:=⟨xb,[[.d (.int .i64)],[.d (.int .i64)]],[.r (.st .expr), .b 0, .b 1],[[(.int .i64)],[(.int .i64)]],λ (e:J) (t:Int) (a:Int)=>⟨(some (bG e<n/\a8 62 62 e=true/\(0<=t/\t<=1000)/\0<=a/\a<=1000),[],[[⟨(.int .i64),max t (topE e).1⟩],[⟨(.int .i64),max a (topE e).2⟩]])⟩⟩
def Dq:dZ:=⟨xb,[[.d (.int .i64)],[.d (.int .i64)]],[.r (.st .expr), .b 0, .b 1],[[(.int .i64)],[(.int .i64)]],λ (e:J) (t:Int) (a:Int)=>⟨(some (a8 62 62 e=true/\(0<=t/\t<=1000)/\0<=a/\a<=1000),[],[[⟨(.int .i64),max t (topE e).1⟩],[⟨(.int .i64),max a (topE e).2⟩]])⟩⟩
def Pd(e:J)(t:Int)(a:Int):Nat->aI:=(fu 100004 (.u (True) [7,8,9,10,11,12,13,14,15,16,17,18,19,20,21,22] [] [] [(400000, .box [.aO ⟨(.int .i64),(xK t e 0:Int)⟩]),(400001, .box [.aO ⟨(.int .i64),(zR a e 0:Int)⟩])] (fu 0 (.a (Nat) (λ i=>i<=e.U.length) (λ i=>e.U.length - i) [] (λ i=>[(6, .aO ⟨(.int .i64),((i:Int):Int)⟩)]) [] (λ i=>[(400000, .box [.aO ⟨(.int .i64),(xK t e i:Int)⟩]),(400001, .box [.aO ⟨(.int .i64),(zR a e i:Int)⟩])])) cf)) cf)
abbrev yv(n:Nat)(e:J)(t:Int)(a:Int):Prop:=(let v0:=(e.U.length:Int);(∀ u1:Unit,(True ->
 ((∃ i2:Nat,(i2<=e.U.length/\((e=e/\(True/\(True/\((0:Int)=(i2:Int)/\True))))/\(((xK t e 0)=(xK t e i2)/\True)/\(((zR a e 0)=(zR a e i2)/\True)/\True)))))/\(∀ i2:Nat,let v1:=e.U.getD i2 zE;(i2<=e.U.length ->
 (e.U.length<=140737488355328 ->
 (ag v0 ->
 (((decide ((i2:Int)<v0))=true ->
 (e.U.length<=140737488355328 ->
 (aJ (i2:Int) e.U.length/\((bG v1<n/\a8 62 62 v1=true/\(0<=(xK t e i2)/\(xK t e i2)<=1000)/\0<=(zR a e i2)/\(zR a e i2)<=1000)/\(ag ((i2:Int)+(1:Int))/\(∃ i3:Nat,(i3<=e.U.length/\(e.U.length - i3<e.U.length - i2/\((e=e/\(True/\(True/\(((i2:Int)+(1:Int))=(i3:Int)/\True))))/\(((max (xK t e i2) (topE v1).1)=(xK t e i3)/\True)/\(((max (zR a e i2) (topE v1).2)=(zR a e i3)/\True)/\True)))))))))))/\((decide ((i2:Int)<v0))=false ->
 (True/\((xK t e i2)=(max t (topE e).1)/\((zR a e i2)=(max a (topE e).2)/\True)))))))))))))
def Nf(n:Nat)(hE:bu [lG])(hO:la [])(hM:nb [])(hS:j8 [mw n]):dZ.Good (mw (n+1)):=by
 refine⟨aG nu,?_⟩;intro (e:J) (t:Int) (a:Int) (hp:bG e<n+1/\a8 62 62 e=true/\(0<=t/\t<=1000)/\0<=a/\a<=1000);refine dC [lG] [] [] [mw n] [] [] [] [] hE hO hM hS nu J6 (Pd e t a) rfl rfl (let v0:=e.aT+(1:Int);let v1:=e=e/\(True/\(True/\True));let v2:=decide (e.aj=(4:Int));let v3:=((max a v0)=(zR a e 0)/\True)/\True;let v4:=(a=(zR a e 0)/\True)/\True;let v5:=(max t v0)=(xK t e 0)/\True;((ag e.aj->(((decide (e.aj=(3:Int)))=true->(ag v0/\(ag t->(ag e.aT->(ag (max t v0)->((ag e.aj->((v2=true->(ag v0/\(ag a->(ag e.aT->(ag (max a v0)->(∃ u1:Unit,(True/\(v1/\(v5/\v3)))))))))/\(v2=false->(∃ u1:Unit,(True/\(v1/\(v5/\v4)))))))/\(yv n e t a)))))))/\((decide (e.aj=(3:Int)))=false->((ag e.aj->((v2=true->(ag v0/\(ag a->(ag e.aT->(ag (max a v0)->(∃ u1:Unit,(True/\(v1/\((t=(xK t e 0)/\True)/\v3)))))))))/\(v2=false->(∃ u1:Unit,(True/\(v1/\((t=(xK t e 0)/\True)/\v4)))))))/\(yv n e t a))))))) ?_;obtain⟨hm,g0,g1,g2⟩:=hp;have f0:=λ i (h:i<e.U.length)=>cz zE e.U i h;have f1:=fh e;have f2:=b4A t a e;have f3:=oJ g0;refine λ _=>⟨λ _=>⟨?_,λ _ _ _=>⟨λ _=>⟨λ _=>⟨?_,λ _ _ _=>⟨(),?_,⟨rfl,af,af,af⟩,⟨?_,af⟩,⟨?_,af⟩,af⟩⟩,λ _=>⟨(),?_,⟨rfl,af,af,af⟩,⟨?_,af⟩,⟨?_,af⟩,af⟩⟩,λ u1 _=>⟨⟨0,?_,⟨rfl,af,af,?_,af⟩,⟨?_,af⟩,⟨?_,af⟩,af⟩,λ i2 _ _ _=>⟨λ _ _=>⟨?_,?_,?_,i2+1,?_,?_,⟨rfl,af,af,?_,af⟩,⟨?_,af⟩,⟨?_,af⟩,af⟩,λ _=>⟨af,?_,?_,af⟩⟩⟩⟩⟩,λ _=>⟨λ _=>⟨λ _=>⟨?_,λ _ _ _=>⟨(),?_,⟨rfl,af,af,af⟩,⟨?_,af⟩,⟨?_,af⟩,af⟩⟩,λ _=>⟨(),?_,⟨rfl,af,af,af⟩,⟨?_,af⟩,⟨?_,af⟩,af⟩⟩,λ u1 _=>⟨⟨0,?_,⟨rfl,af,af,?_,af⟩,⟨?_,af⟩,⟨?_,af⟩,af⟩,λ i2 _ _ _=>⟨λ _ _=>⟨?_,?_,?_,i2+1,?_,?_,⟨rfl,af,af,?_,af⟩,⟨?_,af⟩,⟨?_,af⟩,af⟩,λ _=>⟨af,?_,?_,af⟩⟩⟩⟩⟩;all_goals try and_intros
 all_goals first|with_reducible rfl|with_reducible assumption|exact True.intro|(simp only[b5V,b5O,b5U,b5T] at *;done)|((try simp only[b6B,J.eta,b5K,b5L,b5U,b5T,b6j,b6A,aJ,ag,bn,b5Y,b5S,b6d,b6G,b6T] at *);first|exact True.intro|omega|exact Gy g0 _ (by omega)|(have h1:=f0 i2 (by omega);omega)|(have h1:=b4C t a e i2 (by omega);omega)|(have h1:=b4B t a e i2 g0 (by omega) (by omega) (by omega);omega)|(have h1:=b2j t a e i2 g0 (by omega) (by omega);omega)|(rw[f2.1];simp only[*,b7D,b8j];omega)|(rw[f2.2];simp only[*,b7D,b8j];omega)|(have:=f3 (by omega);omega))
def P5:∀ n,j8 [mw n]
 | 0=>⟨⟨aG nu,λ _ _ _ h=>absurd h.1 (b6H _)⟩,af⟩
 | n+1=>by
  have ih:=P5 n;exact⟨Nf n ⟨x8,af⟩ trivial trivial ⟨ih.1,af⟩,af⟩
def Jq:dZ.Good Dq :=
 ⟨aG nu,λ e t a hp=>(P5 (bG e+1)).1.2 e t a (⟨b6g _,hp⟩)⟩
def Dl:bc:=⟨DB,[.r (.st .equation)],λ (q:aE)=>⟨(some (a8 62 62 q.left=true/\a8 62 62 q.right=true),[⟨(.int .i64),(topEs [q.left,q.right]).1⟩,⟨(.int .i64),(topEs [q.left,q.right]).2⟩])⟩⟩
def O4(q:aE):Nat->aI:=cf
def IL:bc.Good Dl:=by
 refine⟨aG Af,?_⟩;intro (q:aE) (hp:a8 62 62 q.left=true/\a8 62 62 q.right=true);refine qU [] [] [] [Dq] [] [] [] [] trivial trivial trivial ⟨Jq,af⟩ Af Ip (O4 q) (let v2:=topE q.right;let v3:=(0:Int);let v0:=max v3 (topE q.left).1;let v1:=max v3 (topE q.left).2;(((a8 62 62 q.left=true/\(0<=v3/\v3<=1000)/\0<=v3/\v3<=1000)/\((a8 62 62 q.right=true/\(0<=v0/\v0<=1000)/\0<=v1/\v1<=1000)/\(ag (max v0 v2.1)->(ag (max v1 v2.2)->((max v0 v2.1)=((topEs [q.left,q.right]).1)/\(max v1 v2.2)=((topEs [q.left,q.right]).2)))))))) ?_;refine⟨?_,?_,λ _ _=>⟨?_,?_⟩⟩;all_goals try and_intros
 all_goals first|with_reducible rfl|with_reducible assumption|exact True.intro|(simp only[b5V,b5O,b5U,b5T] at *;done)|exact hp.1|exact hp.2|(have h1:=LG _ hp.1;have h2:=LG _ hp.2;(try simp only[topEs]);omega)
structure UT(q:aE):Prop where
 l:isE gP q.left=true
 r:isE gP q.right=true
 tl:a8 62 62 q.left=true
 tr:a8 62 62 q.right=true
 t:0<=(topEs [q.left,q.right]).1/\(topEs [q.left,q.right]).1<=3
 a:0<=(topEs [q.left,q.right]).2/\(topEs [q.left,q.right]).2<=4
def dxT:List (List UInt8):=[[116,48],[126,116,48],[49],[48],[40,116,48,32,43,32,48,41]]
def Mi(O:List Int)(s:Sr):List UInt8:=dxT.getD (pk O s 5).toNat []
def Nn(gg:aD)(t:List UInt8):J:=if FY gg t=0 then CH gg t else J.mk (2:Int) (0:Int) []
def a0K{gg:aD}{t:List UInt8}(h:FY gg t=0):CH gg t=Nn gg t:=by rw[Nn,b5Q h]
def a0J{gg:aD}{t:List UInt8}(h:¬ FY gg t=0):J.mk (2:Int) (0:Int) []=Nn gg t:=by rw[Nn,b5I h]
def dtS(O:List Int):Nat->Sr->Sr
 | 0,s=>s
 | i+1,s=>cE O (dtS O i s) 5
def dtL(O:List Int)(gg:aD):Nat->Sr->List J
 | 0,_=>[]
 | i+1,s=>dtL O gg i s++[Nn gg (Mi O (dtS O i s))]
def daG(O:List Int)(gg:aD)(s:Sr):Gn:=dR O gg.aY gg.aB 6 false s 4
def Is(O:List Int)(gg:aD):Nat->Sr->Sr
 | 0,s=>s
 | i+1,s=>(daG O gg (Is O gg i s)).s
def daL(O:List Int)(gg:aD):Nat->Sr->List J
 | 0,_=>[]
 | i+1,s=>daL O gg i s++[(daG O gg (Is O gg i s)).e]
def a4j:Bool:=[0,1,2,3].all λ a:Int=>[0,1,2,3,4].all λ b:Int=>dxT.all λ t=>isE (aD.mk a b) (Nn (aD.mk a b) t)&&bj (Nn (aD.mk a b) t)
def a7H:a4j=true:=by kernel_rfl
def b0S(O:List Int){s:Sr}{m:Int}(h:bC O s m):Mi O s∈dxT:=by
 have:=h.pk 5;unfold Mi;rw[List.getD_eq_getElem?_getD,List.getElem?_eq_getElem (by show _<5;omega)];exact List.getElem_mem _
def b0U{gg:aD}(hg:sigOk gg=true){t:List UInt8}(ht:t∈dxT):isE gg (Nn gg t)=true/\bj (Nn gg t)=true:=by
 have q:=(dt gg).1 hg;obtain⟨a,b⟩:=gg;simp only at q;have h:=a7H;unfold a4j at h;rw[List.all_eq_true] at h;have ha:a∈([0,1,2,3]:List Int):=by
  have:a=0\/a=1\/a=2\/a=3:=by omega
  rcases this with e|e|e|e<;>subst e<;>simp
 have hb:b∈([0,1,2,3,4]:List Int):=by
  have:b=0\/b=1\/b=2\/b=3\/b=4:=by omega
  rcases this with e|e|e|e|e<;>subst e<;>simp
 have h1:=h a ha;rw[b6y] at h1;have h2:=h1 b hb;rw[b6y] at h2;have h3:=h2 t ht;rw[b5M] at h3;exact h3
structure DtF(O:List Int)(gg:aD)(s:Sr)(m:Int)(i:Nat):Prop where
 sr:bC O (dtS O i s) (m+2 * i)
 len:(dtL O gg i s).length=i
 ok:bH (isE gg) (dtL O gg i s)=true
 cd:bH bj (dtL O gg i s)=true
def H6{α:Type}(p:α->Bool)(xs:List α)(y:α):bH p (xs++[y])=(bH p xs&&p y):=by rw[Bx];simp[bH]
def a1x(O:List Int){gg:aD}(hg:sigOk gg=true){s:Sr}{m:Int}(h:bC O s m):∀ i:Nat,DtF O gg s m i
 | 0=>⟨h.mono (by omega),rfl,rfl,rfl⟩
 | i+1=>by
  have q:=a1x O hg h i;have o:=b0U hg (b0S O q.sr);exact⟨(q.sr.next 5).mono (by omega),by simp[dtL,q.len],by rw[dtL,H6,q.ok,o.1];rfl,by rw[dtL,H6,q.cd,o.2];rfl⟩
structure DaF(O:List Int)(gg:aD)(s:Sr)(m:Int)(i:Nat):Prop where
 sr:bC O (Is O gg i s) (m+2100 * i)
 len:(daL O gg i s).length=i
 ok:bH (isE gg) (daL O gg i s)=true
def a4f(O:List Int){gg:aD}(hg:sigOk gg=true){s:Sr}{m:Int}(h:bC O s m):∀ i:Nat,DaF O gg s m i
 | 0=>⟨h.mono (by omega),rfl,rfl⟩
 | i+1=>by
  have q:=a4f O hg h i;have hq:=(dt gg).1 hg;have hx:=Iv O _ _ hq.1 hq.2 6 false (Is O gg i s) _ 4 q.sr;have hw:wG 6=127:=rfl;have n1:=hx.nd;have n2:=hx.dp;refine⟨(hx.sr).mono (by omega),by simp[daL,q.len],?_⟩;rw[daL,H6,q.ok,b7x,AL,iG _ (by omega),iG _ (by omega)];exact⟨hx.tr,by show au (dR _ _ _ _ _ _ _).e<=_;omega,by show bm (dR _ _ _ _ _ _ _).e<=_;omega⟩
def su:dZ:=⟨uJ,[[.d (.slice (.int .u8)), .d (.int .i64), .d (.int .u64)]],[.b 0, .v (.slice .str)],[[(.slice (.int .u8)),(.int .i64),(.int .u64)]],λ (xs:List (List UInt8)) (O:List Int) (pos:Int) (ar:Int)=>⟨(some (bC O (Sr.mk pos ar) 900000000/\1<=xs.length/\xs.length<=100),[⟨.str,xs.getD (pk O (Sr.mk pos ar) (xs.length:Int)).toNat []⟩],[[⟨(.slice (.int .u8)),O⟩,⟨(.int .i64),(cE O (Sr.mk pos ar) (xs.length:Int)).pos⟩,⟨(.int .u64),(cE O (Sr.mk pos ar) (xs.length:Int)).ar⟩]])⟩⟩
def Fq(xs:List (List UInt8))(O:List Int)(pos:Int)(ar:Int):Nat->aI:=cf
def Bn:dZ.Good su:=by
 refine⟨aG rS,?_⟩;intro (xs:List (List UInt8)) (O:List Int) (pos:Int) (ar:Int) (hp:bC O (Sr.mk pos ar) 900000000/\1<=xs.length/\xs.length<=100);refine dC [] [] [] [de] [] [] [] [] trivial trivial trivial ⟨dB,af⟩ rS BL (Fq xs O pos ar) rfl rfl (let v0:=(xs.length:Int);let v1:=Sr.mk pos ar;let v2:=xs.getD (Int.toNat (pk O v1 (v0))) [];((ag (v0)->((bC O v1 999999000/\(v0)<=1000000)/\(aJ (pk O v1 (v0)) xs.length/\(v2.length<=140737488355328->(v2=(xs.getD (pk O v1 v0).toNat [])/\((O=O/\(((cE O v1 (v0)).pos)=((cE O v1 v0).pos)/\((cE O v1 (v0)).ar)=((cE O v1 v0).ar)))/\True)))))))) ?_;have h0:=hp.1.pk (xs.length:Int);refine λ _=>⟨?_,?_,λ _=>⟨?_,⟨rfl,?_,?_⟩,af⟩⟩;all_goals try and_intros
 all_goals (try simp only[qj,aJ,b5K,b5L] at *);first|done|rfl|trivial|omega|exact hp.1.mono (by omega)
def Dp:bc:=⟨FH,[],⟨(none,[⟨(.st .expr),J.mk 2 0 []⟩])⟩⟩
def Pc :Nat->aI:=cf
def Jh:bc.iY Dp:=by
 refine⟨aG C0,?_⟩;intro  _;refine eO [] [] [] [] [] [] [] [] trivial trivial trivial trivial C0 J4 (Pc ) ((J.mk (2:Int) (0:Int) [])=(J.mk 2 0 [])) ?_;refine ?_;all_goals try and_intros
 all_goals first|rfl|trivial|omega|(simp only[b5K,b5L,aJ,ag,ca,ei,cY,bn] at *;omega)|(simp[aJ,ag] at *;omega)|grind
def qe:dZ:=⟨sH,[[.d (.slice (.int .u8)), .d (.int .i64), .d (.int .u64)]],[.b 0, .v (.st .sig), .r (.st .equation)],[[(.slice (.int .u8)),(.int .i64),(.int .u64)]],λ (gg:aD) (q:aE) (O:List Int) (pos:Int) (ar:Int)=>⟨(some ((bC O (Sr.mk pos ar) 800000000/\sigOk gg=true)/\UT q),[⟨(.slice (.st .expr)),dtL O gg (topEs [q.left,q.right]).1.toNat (Sr.mk pos ar)⟩,⟨(.slice (.st .expr)),daL O gg (topEs [q.left,q.right]).2.toNat (dtS O (topEs [q.left,q.right]).1.toNat (Sr.mk pos ar))⟩],[[⟨(.slice (.int .u8)),O⟩,⟨(.int .i64),(Is O gg (topEs [q.left,q.right]).2.toNat (dtS O (topEs [q.left,q.right]).1.toNat (Sr.mk pos ar))).pos⟩,⟨(.int .u64),(Is O gg (topEs [q.left,q.right]).2.toNat (dtS O (topEs [q.left,q.right]).1.toNat (Sr.mk pos ar))).ar⟩]])⟩⟩
def D8(gg:aD)(q:aE)(O:List Int)(pos:Int)(ar:Int):Nat->aI:=(fu 0 (.mk (Nat) (λ i=>i<=(topEs [q.left,q.right]).1.toNat) (λ i=>(topEs [q.left,q.right]).1.toNat - i) [] [1,2,6,7,17,18,19,20,21,22,23] (λ i=>[(12, .aO ⟨(.int .i64),((i:Int):Int)⟩),(10, .aC 9000),(11, .aC 9100)]) [] (λ i=>[(400000, .box [.aO ⟨(.slice (.int .u8)),(O:List Int)⟩, .aO ⟨(.int .i64),((dtS O i (Sr.mk pos ar)).pos:Int)⟩, .aO ⟨(.int .u64),((dtS O i (Sr.mk pos ar)).ar:Int)⟩]),(9000, .aC (.st .expr) (dtL O gg i (Sr.mk pos ar):List J)),(9100, .aC (.st .expr) (([]:List J):List J))]) [] [] (λ i=>(fu 100011 (.u (True) [13,15,24,25,26,29,30,31,32,33,34,35,36,37] [(14, .ptr 14 0),(10, .aC 9000),(11, .aC 9100)] [] [(14, .box [.aO ⟨(.int .i64),((Nn gg (Mi O (dtS O i (Sr.mk pos ar)))).aj:Int)⟩, .aO ⟨(.int .i64),((Nn gg (Mi O (dtS O i (Sr.mk pos ar)))).aT:Int)⟩, .aC 8802]),(8802, .aC (.st .expr) ((Nn gg (Mi O (dtS O i (Sr.mk pos ar)))).U:List J)),(400000, .box [.aO ⟨(.slice (.int .u8)),(O:List Int)⟩, .aO ⟨(.int .i64),((dtS O (i+1) (Sr.mk pos ar)).pos:Int)⟩, .aO ⟨(.int .u64),((dtS O (i+1) (Sr.mk pos ar)).ar:Int)⟩]),(9000, .aC (.st .expr) (dtL O gg i (Sr.mk pos ar):List J)),(9100, .aC (.st .expr) (([]:List J):List J))] cf) cf))) (fu 2 (.a (Nat) (λ i=>i<=(topEs [q.left,q.right]).2.toNat) (λ i=>(topEs [q.left,q.right]).2.toNat - i) [8,12,24,25,26] (λ i=>[(16, .aO ⟨(.int .i64),((i:Int):Int)⟩),(11, .aC 9100),(10, .aC 9000)]) [] (λ i=>[(400000, .box [.aO ⟨(.slice (.int .u8)),(O:List Int)⟩, .aO ⟨(.int .i64),((Is O gg i (dtS O (topEs [q.left,q.right]).1.toNat (Sr.mk pos ar))).pos:Int)⟩, .aO ⟨(.int .u64),((Is O gg i (dtS O (topEs [q.left,q.right]).1.toNat (Sr.mk pos ar))).ar:Int)⟩]),(9100, .aC (.st .expr) (daL O gg i (dtS O (topEs [q.left,q.right]).1.toNat (Sr.mk pos ar)):List J)),(9000, .aC (.st .expr) (dtL O gg (topEs [q.left,q.right]).1.toNat (Sr.mk pos ar):List J))])) cf))
abbrev AO(gg:aD)(q:aE)(i1:Nat):Prop:=(let v0:=topEs [q.left,q.right];(True/\(gg=gg/\((v0.1)=(v0.1)/\((v0.2)=(v0.2)/\(True/\(True/\((i1:Int)=(i1:Int)/\(True/\True)))))))))
abbrev AP(gg:aD)(O:List Int)(pos:Int)(ar:Int)(i1:Nat):Prop:=(let v1:=Sr.mk pos ar;let v0:=cE O (dtS O i1 v1) (([([116,48]),([126,116,48]),([49]),([48]),([40,116,48,32,43,32,48,41])]).length:Int);((O=O/\((v0.pos)=((dtS O (i1+1) v1).pos)/\((v0.ar)=((dtS O (i1+1) v1).ar)/\True)))/\((dtL O gg i1 v1)=(dtL O gg i1 v1)/\(([]:List J)=([]:List J)/\True))))
def zL:dZ.Good qe:=by
 refine⟨aG pU,?_⟩;intro (gg:aD) (q:aE) (O:List Int) (pos:Int) (ar:Int) (hp:(bC O (Sr.mk pos ar) 800000000/\sigOk gg=true)/\UT q);refine dC [Dl] [pr,Dp] [] [su,yy] [22,23,35,40,43,44,53,54,55] [] [] [4,30] ⟨IL,af⟩ ⟨sK,Jh,af⟩ trivial ⟨Bn,FZ,af⟩ pU An (D8 gg q O pos ar) rfl rfl (let v0:=topEs [q.left,q.right];let v1:=[([116,48]),([126,116,48]),([49]),([48]),([40,116,48,32,43,32,48,41])];let v2:=Sr.mk pos ar;let v3:=dtS O v0.1.toNat v2;let v4:=dtL O gg v0.1.toNat v2;let v5:=(v1.length:Int);let v6:=([]:List J);let v7:=(4:Int);let v8:=J.mk 2 0 [];(((a8 62 62 q.left=true/\a8 62 62 q.right=true)/\(ag (v0.1)->(ag (v0.2)->((∃ i1:Nat,(i1<=v0.1.toNat/\((True/\(gg=gg/\((v0.1)=(v0.1)/\((v0.2)=(v0.2)/\(True/\(True/\((0:Int)=(i1:Int)/\True)))))))/\((O=O/\(pos=((dtS O i1 v2).pos)/\(ar=((dtS O i1 v2).ar)/\True)))/\([]=(dtL O gg i1 v2)/\([]=v6/\True))))))/\(∀ i1:Nat,let vb:=dtS O i1 v2;let v9:=Nn gg (Mi O vb);let va:=v1.getD (pk O vb v5).toNat [];let vc:=AP gg O pos ar i1;let vd:=[(J.mk (v9.aj) (v9.aT) (v9.U))];let ve := !(decide ((FY gg va)=(0:Int)));let vf:=dtL O gg i1 v2;let vg:=AO gg q i1;(i1<=v0.1.toNat->(((decide ((i1:Int)<(v0.1)))=true->((bC O vb 900000000/\1<=v1.length/\v1.length<=100)/\(ag (FY gg va)->(((ve=true->(∃ u2:Unit,(True/\(vg/\((v8.aj=(v9.aj)/\(v8.aT=(v9.aT)/\(True/\True)))/\(v8.U=(v9.U)/\vc))))))/\(ve=false->(∃ u2:Unit,(True/\(vg/\(((CH gg va).aj=(v9.aj)/\((CH gg va).aT=(v9.aT)/\(True/\True)))/\((CH gg va).U=(v9.U)/\vc)))))))/\(∀ u2:Unit,(True->(bn (vf.length+vd.length) 40/\(ag ((i1:Int)+(1:Int))/\(∃ i3:Nat,(i3<=v0.1.toNat/\(v0.1.toNat - i3<v0.1.toNat - i1/\((True/\(gg=gg/\((v0.1)=(v0.1)/\((v0.2)=(v0.2)/\(True/\(True/\(((i1:Int)+(1:Int))=(i3:Int)/\True)))))))/\((O=O/\(((dtS O (i1+1) v2).pos)=((dtS O i3 v2).pos)/\(((dtS O (i1+1) v2).ar)=((dtS O i3 v2).ar)/\True)))/\((vf++vd)=(dtL O gg i3 v2)/\(v6=v6/\True)))))))))))))))/\((decide ((i1:Int)<(v0.1)))=false->((∃ i2:Nat,(i2<=v0.2.toNat/\((True/\(gg=gg/\((v0.2)=(v0.2)/\(True/\(True/\((0:Int)=(i2:Int)/\True))))))/\((O=O/\((vb.pos)=((Is O gg i2 v3).pos)/\((vb.ar)=((Is O gg i2 v3).ar)/\True)))/\(v6=(daL O gg i2 v3)/\(vf=v4/\True))))))/\(∀ i2:Nat,let vi:=Is O gg i2 v3;let vh:=dR O gg.aY gg.aB 6 false vi v7;let vj:=daL O gg i2 v3;(i2<=v0.2.toNat->(((decide ((i2:Int)<(v0.2)))=true->(((bC O vi 890000000/\sigOk gg=true)/\0<=v7/\v7<=1000)/\(bn (vj.length+([(aV (vh.e))]).length) 40/\(ag ((i2:Int)+(1:Int))/\(∃ i3:Nat,(i3<=v0.2.toNat/\(v0.2.toNat - i3<v0.2.toNat - i2/\((True/\(gg=gg/\((v0.2)=(v0.2)/\(True/\(True/\(((i2:Int)+(1:Int))=(i3:Int)/\True))))))/\((O=O/\((vh.s.pos)=((Is O gg i3 v3).pos)/\((vh.s.ar)=((Is O gg i3 v3).ar)/\True)))/\((vj++([(aV (vh.e))]))=(daL O gg i3 v3)/\(v4=v4/\True)))))))))))/\((decide ((i2:Int)<(v0.2)))=false->((v4=v4/\vj=(daL O gg v0.2.toNat v3))/\((O=O/\((vi.pos)=((Is O gg v0.2.toNat v3).pos)/\(vi.ar)=((Is O gg v0.2.toNat v3).ar)))/\True))))))))))))))))) ?_;obtain⟨⟨hs,hg⟩,hc⟩:=hp;have c1:=hc.t;have c2:=hc.a;have t1:(((topEs [q.left,q.right]).1.toNat:Nat):Int)=(topEs [q.left,q.right]).1:=b7O c1.1;have t2:(((topEs [q.left,q.right]).2.toNat:Nat):Int)=(topEs [q.left,q.right]).2:=b7O c2.1;have F1:=a1x O hg hs;have F2:=a4f O hg (F1 (topEs [q.left,q.right]).1.toNat).sr;refine⟨?_,λ _ _=>⟨⟨0,?_,⟨af,rfl,rfl,rfl,af,af,?_,af⟩,⟨rfl,?_,?_,af⟩,?_,?_,af⟩,λ i1 _=>have b2z:=F1 i1;⟨λ _=>⟨?_,λ _=>⟨⟨λ _=>⟨(),?_,⟨af,rfl,rfl,rfl,af,af,rfl,af,af⟩,⟨?_,?_,af,af⟩,?_,⟨rfl,?_,?_,af⟩,rfl,rfl,af⟩,λ _=>⟨(),?_,⟨af,rfl,rfl,rfl,af,af,rfl,af,af⟩,⟨?_,?_,af,af⟩,?_,⟨rfl,?_,?_,af⟩,rfl,rfl,af⟩⟩,λ u2 _=>⟨?_,?_,i1+1,?_,?_,⟨af,rfl,rfl,rfl,af,af,?_,af⟩,⟨rfl,?_,?_,af⟩,?_,rfl,af⟩⟩⟩,λ _=>⟨⟨0,?_,⟨af,rfl,rfl,af,af,?_,af⟩,⟨rfl,?_,?_,af⟩,?_,?_,af⟩,λ i2 _=>have a8U:=F2 i2;⟨λ _=>⟨?_,?_,?_,i2+1,?_,?_,⟨af,rfl,rfl,af,af,?_,af⟩,⟨rfl,?_,?_,af⟩,?_,rfl,af⟩,λ _=>⟨⟨rfl,?_⟩,⟨rfl,?_,?_⟩,af⟩⟩⟩⟩⟩⟩;all_goals try and_intros
 all_goals try (first|with_reducible rfl|with_reducible assumption)
 all_goals try simp only[J.eta,aE.eta,aQ,bq] at *
 all_goals (try simp only[qj,J.eta,aD.eta,b5K,b5L,b5U,b5T,b6j,b6A,b8J] at *);first|done|with_reducible rfl|exact True.intro|omega|with_reducible assumption|exact hc.tl|exact hc.tr|exact hg|exact (F1 _).sr.mono (by omega)|exact (F2 _).sr.mono (by omega)|exact hs.mono (by omega)|(have z1:=(F1 i1).len;simp only[bn,b5Y,b5S,b6d];omega)|(have z1:=(F2 i2).len;simp only[bn,b5Y,b5S,b6d];omega)|exact (congrArg J.aj (a0K (gg:=gg) (t:=Mi O (dtS O i1 (Sr.mk pos ar))) (by assumption)) :)|exact (congrArg J.aT (a0K (gg:=gg) (t:=Mi O (dtS O i1 (Sr.mk pos ar))) (by assumption)) :)|exact (congrArg J.U (a0K (gg:=gg) (t:=Mi O (dtS O i1 (Sr.mk pos ar))) (by assumption)) :)|exact (congrArg J.aj (a0J (gg:=gg) (t:=Mi O (dtS O i1 (Sr.mk pos ar))) (by assumption)) :)|exact (congrArg J.aT (a0J (gg:=gg) (t:=Mi O (dtS O i1 (Sr.mk pos ar))) (by assumption)) :)|exact (congrArg J.U (a0J (gg:=gg) (t:=Mi O (dtS O i1 (Sr.mk pos ar))) (by assumption)) :)|(have e:i1=(topEs [q.left,q.right]).1.toNat:=(by omega);subst e;rfl)|(have e:i2=(topEs [q.left,q.right]).2.toNat:=(by omega);subst e;rfl)|rfl
def a2I(x y:J):ke x y=(decide (x.aj=y.aj)&&decide (x.aT=y.aT)&&ke x.U y.U):=by
 refine b8H.2 ?_;cases x;cases y;simp[and_assoc]
def mq(n:Nat):bc:=⟨ua,[.r (.st .expr), .r (.st .expr)],λ (x:J) (y:J)=>⟨(some (bG x<n),[⟨.bool,ke x y⟩])⟩⟩
def Dj:bc:=⟨ua,[.r (.st .expr), .r (.st .expr)],λ (x:J) (y:J)=>⟨(none,[⟨.bool,ke x y⟩])⟩⟩
def O2(x:J)(y:J):Nat->aI:=(fu 0 (.b (Nat) (λ k=>k<=x.U.length/\x.U.length=y.U.length/\x.U.take k=y.U.take k/\x.aj=y.aj/\x.aT=y.aT) (λ k=>x.U.length - k) [6,7,8,9,10,11,12,13,14,15,16,17,18,19,20,21,22,23,24,25,26,27,28,29,30,31,32,33,34,35,36,37,38] (λ k=>[(5, .aO ⟨(.int .i64),((k:Int):Int)⟩)])) cf)
abbrev ph(n:Nat)(x:J)(y:J):Prop:=(let v0:=(x.U.length:Int);((∃ k1:Nat,((k1<=x.U.length/\x.U.length=y.U.length/\x.U.take k1=y.U.take k1/\x.aj=y.aj/\x.aT=y.aT)/\((x=x/\(y=y/\((0:Int)=(k1:Int)/\True)))/\True)))/\(∀ k1:Nat,let v1 := !(ke (x.U.getD k1 zE) (y.U.getD k1 zE));let v2:=(k1:Int);((k1<=x.U.length/\x.U.length=y.U.length/\x.U.take k1=y.U.take k1/\x.aj=y.aj/\x.aT=y.aT) ->
 (x.U.length<=140737488355328 ->
 (ag v0 ->
 (((decide (v2<v0))=true ->
 (aJ v2 x.U.length/\(aJ v2 y.U.length/\(x.U.length<=140737488355328 ->
 (y.U.length<=140737488355328 ->
 (bG (x.U.getD k1 zE)<n/\((v1=true ->
 false=(ke x y))/\(v1=false ->
 (ag (v2+(1:Int))/\(∃ k2:Nat,((k2<=x.U.length/\x.U.length=y.U.length/\x.U.take k2=y.U.take k2/\x.aj=y.aj/\x.aT=y.aT)/\(x.U.length - k2<x.U.length - k1/\((x=x/\(y=y/\((v2+(1:Int))=(k2:Int)/\True)))/\True)))))))))))))/\((decide (v2<v0))=false ->
 true=(ke x y)))))))))
abbrev yn(n:Nat)(x:J)(y:J):Prop:=(let v0 := !(decide (((x.U.length:Int))=((y.U.length:Int))));(x.U.length<=140737488355328 ->
 (ag ((x.U.length:Int)) ->
 (y.U.length<=140737488355328 ->
 (ag ((y.U.length:Int)) ->
 ((v0=true ->
 false=(ke x y))/\(v0=false ->
 (ph n x y))))))))
def Nb(n:Nat)(hE:bu [mq n]):bc.Good (mq (n+1)):=by
 refine⟨aG lZ,?_⟩;intro (x:J) (y:J) (hp:bG x<n+1);refine bo [mq n] [] [] [] hE lZ Il (O2 x y) ((((!(decide (x.aj=y.aj)))=false->(((!(decide (x.aT=y.aT)))=false->(ag x.aj->(ag y.aj->(ag x.aT->(ag y.aT->(yn n x y))))))/\((!(decide (x.aT=y.aT)))=(!false)->(ag x.aj->(ag y.aj->(ag x.aT->(ag y.aT->((true=true->false=(ke x y))/\(true=false->(ph n x y))))))))))/\((!(decide (x.aj=y.aj)))=(!false)->((true=false->(ag x.aj->(ag y.aj->(yn n x y))))/\(true=(!false)->(ag x.aj->(ag y.aj->((true=true->false=(ke x y))/\(true=false->(ph n x y)))))))))) ?_;have f0:=fh x;have f3:=a2I x y;refine⟨λ _=>⟨λ _ _ _ _ _ _ _ _ _=>⟨λ _=>?_,λ _=>⟨⟨0,?_,⟨rfl,rfl,?_,af⟩,af⟩,λ k1 _=>have Zr:=CL zE x.U y.U k1;have Zs:=pM x.U y.U k1;have Zt:=cz zE x.U k1;λ _ _=>⟨λ _=>⟨?_,?_,λ _ _=>⟨?_,λ _=>?_,λ _=>⟨?_,k1+1,?_,?_,⟨rfl,rfl,?_,af⟩,af⟩⟩⟩,λ _=>?_⟩⟩⟩,λ _ _ _ _ _=>⟨λ _=>?_,λ _=>⟨⟨0,?_,⟨rfl,rfl,?_,af⟩,af⟩,λ k1 _=>have a3O:=CL zE x.U y.U k1;have a3P:=pM x.U y.U k1;have a3Q:=cz zE x.U k1;λ _ _=>⟨λ _=>⟨?_,?_,λ _ _=>⟨?_,λ _=>?_,λ _=>⟨?_,k1+1,?_,?_,⟨rfl,rfl,?_,af⟩,af⟩⟩⟩,λ _=>?_⟩⟩⟩⟩,λ _=>⟨λ _ _ _ _ _ _ _=>⟨λ _=>?_,λ _=>⟨⟨0,?_,⟨rfl,rfl,?_,af⟩,af⟩,λ k1 _=>have a8W:=CL zE x.U y.U k1;have a8X:=pM x.U y.U k1;have a8Y:=cz zE x.U k1;λ _ _=>⟨λ _=>⟨?_,?_,λ _ _=>⟨?_,λ _=>?_,λ _=>⟨?_,k1+1,?_,?_,⟨rfl,rfl,?_,af⟩,af⟩⟩⟩,λ _=>?_⟩⟩⟩,λ _ _ _=>⟨λ _=>?_,λ _=>⟨⟨0,?_,⟨rfl,rfl,?_,af⟩,af⟩,λ k1 _=>have b2C:=CL zE x.U y.U k1;have b2D:=pM x.U y.U k1;have b2E:=cz zE x.U k1;λ _ _=>⟨λ _=>⟨?_,?_,λ _ _=>⟨?_,λ _=>?_,λ _=>⟨?_,k1+1,?_,?_,⟨rfl,rfl,?_,af⟩,af⟩⟩⟩,λ _=>?_⟩⟩⟩⟩⟩;all_goals try and_intros
 all_goals first|rfl|trivial|(simp only[decide_eq_true_eq,decide_eq_false_iff_not,Bool.not_eq_false',Bool.not_eq_true',decide_not,aJ,ag] at *;first|omega|grind)|grind [Av,T3]
def NF :∀ n,bu [mq n]
 | 0=>⟨⟨aG lZ,λ _ _ h=>absurd h (b6H _)⟩,af⟩
 | n+1=>by
  have ih:=NF  n;exact⟨Nb n ⟨ih.1,af⟩,af⟩
def IJ :bc.Good Dj :=
 ⟨aG lZ,λ x y hp=>(NF  (bG x+1)).1.2 x y (b6g _)⟩
mutual
def y9{α:Type}(f:J->List α->α):J->α
 | ⟨k,n,ks⟩=>f ⟨k,n,ks⟩ (iR f ks)
def iR{α:Type}(f:J->List α->α):List J->List α
 | []=>[]
 | x::xs=>y9 f x::iR f xs
end
def eL{α:Type}(f:J->List α->α)(d:α)(z:J):∀ (xs:List J) (i:Nat),i<xs.length->(iR f xs).getD i d=y9 f (xs.getD i z)
 | [],i,h=>by simp at h
 | x::xs,0,h=>by simp[iR]
 | x::xs,i+1,h=>by
  have:=eL f d z xs i (by simpa using h);simpa [iR] using this
def kp{α:Type}(f:J->List α->α)(x:J):y9 f x=f x (iR f x.U):=by
 cases x;rfl
structure B2(x:J):Prop where
 len:x.U.length=2
 g0:aF (x.U.getD 0 zE)=true
 g1:aF (x.U.getD 1 zE)=true
 l0:bG (x.U.getD 0 zE)<bG x
 l1:bG (x.U.getD 1 zE)<bG x
 nd:au x=1+au (x.U.getD 0 zE)+au (x.U.getD 1 zE)
structure B1(x:J):Prop where
 len:x.U.length=1
 g0:aF (x.U.getD 0 zE)=true
 l0:bG (x.U.getD 0 zE)<bG x
 nd:au x=1+au (x.U.getD 0 zE)
def cH(x:J)(h:aF x=true)(e:x.aj=6\/x.aj=7):B2 x:=by
 obtain⟨h1,h2,h3⟩:=(cF x h).2.2.1 e;have hn:=lM x;rw[a6h au zE _ h1] at hn;exact⟨h1,h2.1,h3.1,h2.2,h3.2,by omega⟩
def jf(x:J)(h:aF x=true)(e:x.aj=5\/x.aj=8):B1 x:=by
 obtain⟨h1,h2⟩:=(cF x h).2.1 e;have hn:=lM x;rw[a6g au zE _ h1] at hn;exact⟨h1,h2.1,h2.2,by omega⟩
def Jd(x:J):1<=au x:=by rw[lM];omega
def fF(x:J)(h:aF x=true):x.aj=1\/x.aj=2\/x.aj=3\/x.aj=4\/x.aj=5\/x.aj=6\/x.aj=7\/x.aj=8:=(cF x h).2.2.2
def VG(x:J)(h:aF x=true)(e:x.aj=1\/x.aj=2\/x.aj=3\/x.aj=5):bY x=true:=by
 have h':=h;unfold bY;rw[sV 9 9 62 62 (by decide) (by decide) x (by simpa [aF] using h),Bool.true_and,oi,Bool.and_eq_true];simp only[aF] at h;rw[eH,jg] at h;simp only[Bool.and_eq_true,decide_eq_true_eq] at h;refine⟨by rcases e with e|e|e|e<;>rw[e]<;>decide,?_⟩;by_cases h5:x.aj=5
 .have hl:=(jf x h' (.inl h5)).len;have hc:bj (x.U.getD 0 zE)=true:=by simpa [h5] using h.1.2
  match hk:x.U,hl with
  | [a],_ =>
   rw[hk] at hc;simp only[bH,Bool.and_true];simpa using hc
 .have:x.U.length=0:=by
   have h1:=h.1.1.1;rcases e with e|e|e|e
   .rw[e] at h1;simp[cm] at h1;omega
   .rw[e] at h1;simp[cm] at h1;omega
   .rw[e] at h1;simp[cm] at h1;omega
   .exact absurd e h5
  rw[b6S this];rfl
def eM(a b:J)(k:Int)(h1:aF a=true)(h2:aF b=true)(hk:k=6\/k=7):aF (J.mk k 0 [a,b])=true:=UR 9 9 a b k h1 h2 hk
def ZY(a:J)(h1:aF a=true):aF (J.mk 8 0 [a])=true:=Ny 9 9 a 8 h1 (.inr rfl)
def Mr:aF (J.mk 2 0 [])=true:=by decide
def B8:aF (J.mk 1 0 [])=true:=by decide
def lN(k:Int)(a b:J):au (J.mk k 0 [a,b])=1+au a+au b:=by simp[au,gI];omega
def Yq(k:Int)(a:J):au (J.mk k 0 [a])=1+au a:=by simp[au,gI]
def FO(k n:Int):au (J.mk k n [])=1:=by simp[au,gI]
def Vv(a:Int)(x:J)(bs:List Bool):Bool:=if x.aj=4 then false else if x.aj=6 then bs.getD 0 false||bs.getD 1 false else if x.aj=7 then bs.getD 0 false&&bs.getD 1 false else if x.aj=8 then true else cv a x
def fV(a:Int)(x:J):Bool:=y9 (Vv a) x
def Qz(a:Int)(x:J):fV a x=Vv a x (iR (Vv a) x.U):=kp _ x
def a1z(a:Int)(x:J)(i:Nat)(h:i<x.U.length):(iR (Vv a) x.U).getD i false=fV a (x.U.getD i zE):=eL _ _ _ _ i h
def a9e(a:Int)(x:J)(h:x.aj=4):false=fV a x:=by rw[Qz];simp[Vv,h]
def a9f(a:Int)(x:J)(h:x.aj=6)(b:B2 x):fV a x=(fV a (x.U.getD 0 zE)||fV a (x.U.getD 1 zE)):=by
 rw[Qz];simp only[Vv,h];rw[a1z a x 0 (by have:=b.len;omega),a1z a x 1 (by have:=b.len;omega)];rfl
def a9g(a:Int)(x:J)(h:x.aj=7)(b:B2 x):fV a x=(fV a (x.U.getD 0 zE)&&fV a (x.U.getD 1 zE)):=by
 rw[Qz];simp only[Vv,h];rw[a1z a x 0 (by have:=b.len;omega),a1z a x 1 (by have:=b.len;omega)];rfl
def a9h(a:Int)(x:J)(h:x.aj=8):true=fV a x:=by rw[Qz];simp[Vv,h]
def a1y(a:Int)(x:J)(h4:¬ x.aj=4)(h6:¬ x.aj=6)(h7:¬ x.aj=7)(h8:¬ x.aj=8):cv a x=fV a x:=by rw[Qz];simp[Vv,h4,h6,h7,h8]
noncomputable def WD(x:J)(fs:List (List J->List J))(out:List J):List J :=
 if x.aj=1 then out else if x.aj=6 then fs.getD 1 id (fs.getD 0 id out) else if out.any (λ y=>ke y x)=true then out else out++[x]
noncomputable def kI(x:J)(out:List J):List J:=y9 WD x out
def WE(x:J)(out:List J):kI x out=WD x (iR WD x.U) out:=congrFun (kp _ x) out
def a5Q(x:J)(out:List J)(h:x.aj=1):kI x out=out:=by rw[WE];simp[WD,h]
def a5R(x:J)(out:List J)(h:x.aj=6)(b:B2 x):kI x out=kI (x.U.getD 1 zE) (kI (x.U.getD 0 zE) out):=by
 rw[WE];simp only[WD,h];rw[eL WD id zE x.U 0 (by have:=b.len;omega),eL WD id zE x.U 1 (by have:=b.len;omega)];rfl
def a5T(x:J)(out:List J)(h1:¬ x.aj=1)(h6:¬ x.aj=6)(ha:out.any (λ y=>ke y x)=true):kI x out=out:=by
 rw[WE,WD,b5I h1,b5I h6,b5Q ha]
def a5S(x:J)(out:List J)(h1:¬ x.aj=1)(h6:¬ x.aj=6)(ha:out.any (λ y=>ke y x)=false):kI x out=out++[x]:=by
 rw[WE,WD,b5I h1,b5I h6,b5I (by rw[ha];decide)]
def iO(xs:List J):Nat:=dy au xs+xs.length
def nR(xs:List J):Prop:=∀ y∈xs,aF y=true
def Ly{α:Type}(f:α->Nat):∀ xs ys:List α,dy f (xs++ys)=dy f xs+dy f ys
 | [],ys=>by simp[dy]
 | x::xs,ys=>by simp only[b6x,dy,Ly f xs ys];omega
def WI:∀ (N:Nat) (x:J),bG x<N->aF x=true->∀ out,nR out->nR (kI x out)/\iO (kI x out)<=iO out+au x+1
 | 0,x,h,_=>by omega
 | N+1,x,hN,h=>by
  intro out ho;by_cases h1:x.aj=1
  .rw[a5Q x out h1];exact⟨ho,by omega⟩
  by_cases h6:x.aj=6
  .have b:=cH x h (.inl h6);rw[a5R x out h6 b];obtain⟨a1,a2⟩:=WI N (x.U.getD 0 zE) (by have:=b.l0;omega) b.g0 out ho;obtain⟨c1,c2⟩:=WI N (x.U.getD 1 zE) (by have:=b.l1;omega) b.g1 _ a1;exact⟨c1,by have:=b.nd;omega⟩
  rcases b6h (out.any (λ y=>ke y x)) with e|e
  .rw[a5T x out h1 h6 e];exact⟨ho,by omega⟩
  .rw[a5S x out h1 h6 e];refine⟨λ y hy=>?_,?_⟩
   .rcases b5F.1 hy with q|q
    .exact ho y q
    .rw[b5Z] at q;rw[q];exact h
   .simp only[iO,Ly,dy,b5Y,b5S,b6d];omega
def ltX(y x:J):Bool:=Op.bytesLess (aX y) (aX x)
def mB(x:J):List J->List J
 | []=>[x]
 | y::ys=>if ltX y x=true then y::mB x ys else x::y::ys
def XY(x:J):∀ ys y,y∈mB x ys↔y=x\/y∈ys
 | [],y=>by simp[mB]
 | z::zs,y=>by
  rw[mB];split
  .simp only[b5X,XY x zs y];constructor
   .rintro (h|h|h)
    .exact .inr (.inl h)
    .exact .inl h
    .exact .inr (.inr h)
   .rintro (h|h|h)
    .exact .inr (.inl h)
    .exact .inl h
    .exact .inr (.inr h)
  .simp only[b5X]
def X0(x:J):∀ ys,iO (mB x ys)=iO ys+au x+1
 | []=>by simp[mB,iO,dy]
 | z::zs=>by
  have ih:=X0 x zs;rw[mB];split
  .simp only[iO,dy,b5S] at ih ⊢;omega
  .simp only[iO,dy,b5S];omega
def Sf(xs:List J):List J:=xs.foldl (λ out x=>mB x out) []
def a0O:∀ (xs acc:List J),(∀ y,y∈xs.foldl (λ out x=>mB x out) acc↔y∈xs\/y∈acc)/\iO (xs.foldl (λ out x=>mB x out) acc)=iO xs+iO acc/\(xs.foldl (λ out x=>mB x out) acc).length=xs.length+acc.length
 | [],acc=>by simp[iO,dy]
 | x::xs,acc=>by
  obtain⟨h1,h2,h3⟩:=a0O xs (mB x acc);have ht:=X0 x acc;have hl:∀ ys:List J,(mB x ys).length=ys.length+1:=by
   intro ys;induction ys with
   | nil=>rfl
   | cons y ys ih=>rw[mB];split<;>simp[ih]
  refine⟨λ y=>?_,?_,?_⟩
  .rw[b7C,h1,XY,b5X];constructor
   .rintro (h|h|h)
    .exact .inl (.inr h)
    .exact .inl (.inl h)
    .exact .inr h
   .rintro ((h|h)|h)
    .exact .inr (.inl h)
    .exact .inl h
    .exact .inr (.inr h)
  .rw[b7C,h2,ht];simp only[iO,dy,b5S];omega
  .rw[b7C,h3,hl,b5S];omega
def wK:List J->J
 | []=>J.mk 1 0 []
 | x::xs=>xs.foldl (λ o y=>J.mk 6 0 [o,y]) x
noncomputable def Tl(a b:J):J:=wK (Sf (kI b (kI a [])))
def X6:∀ (xs:List J) (o:J),aF o=true->nR xs->aF (xs.foldl (λ o y=>J.mk 6 0 [o,y]) o)=true/\au (xs.foldl (λ o y=>J.mk 6 0 [o,y]) o)=au o+iO xs
 | [],o,h,_=>⟨h,by simp[iO,dy]⟩
 | x::xs,o,h,hx=>by
  obtain⟨h1,h2⟩:=X6 xs (J.mk 6 0 [o,x]) (eM o x 6 h (hx x (by simp)) (.inl rfl)) (λ y hy=>hx y (by simp[hy]));refine⟨h1,?_⟩;rw[b7C,h2,lN];simp only[iO,dy,b5S];omega
structure a3A(a b r:J):Prop where
 g:aF r=true
 n:au r<=au a+au b+1
def a9K(a b:J)(h1:aF a=true)(h2:aF b=true):nR (Sf (kI b (kI a [])))/\iO (Sf (kI b (kI a [])))<=au a+au b+2:=by
 obtain⟨a1,a2⟩:=WI _ a (b6g _) h1 [] (λ y hy=>by cases hy);obtain⟨b1,b2⟩:=WI _ b (b6g _) h2 _ a1;obtain⟨c1,c2,_⟩:=a0O (kI b (kI a [])) [];have e0:iO []=0:=rfl;refine⟨λ y hy=>?_,?_⟩
 .rcases (c1 y).1 hy with q|q
  .exact b1 y q
  .cases q
 .unfold Sf;omega
def b2e(a b:J)(h1:aF a=true)(h2:aF b=true):a3A a b (Tl a b):=by
 obtain⟨g,t⟩:=a9K a b h1 h2;unfold Tl;generalize Sf (kI b (kI a []))=L at g t;match L with
 | []=>exact⟨B8,by show au (J.mk 1 0 [])<=_;rw[FO];omega⟩
 | x::xs =>
  obtain⟨q1,q2⟩:=X6 xs x (g x (by simp)) (λ y hy=>g y (by simp[hy]));refine⟨q1,?_⟩;show au (xs.foldl _ x)<=_;rw[q2];simp only[iO,dy,b5S] at t ⊢;omega
def SM(x:J)(fs:List (J->J))(b:J):J :=
 if x.aj=1\/b.aj=1 then J.mk 1 0 [] else if x.aj=2 then b else if b.aj=2 then x else if x.aj=7 then fs.getD 0 id (fs.getD 1 id b) else J.mk 7 0 [x,b]
def rW(x b:J):J:=y9 SM x b
def Qx(x b:J):rW x b=SM x (iR SM x.U) b:=congrFun (kp _ x) b
def TT(x b:J)(h:x.aj=1\/b.aj=1):rW x b=J.mk 1 0 []:=by rw[Qx,SM,b5Q h]
def TU(x b:J)(h:¬ (x.aj=1\/b.aj=1))(h2:x.aj=2):rW x b=b:=by rw[Qx,SM,b5I h,b5Q h2]
def TW(x b:J)(h:¬ (x.aj=1\/b.aj=1))(h2:¬ x.aj=2)(h3:b.aj=2):rW x b=x:=by rw[Qx,SM,b5I h,b5I h2,b5Q h3]
def TX(x b:J)(h:¬ (x.aj=1\/b.aj=1))(h2:¬ x.aj=2)(h3:¬ b.aj=2)(h7:x.aj=7)(g:B2 x):rW x b=rW (x.U.getD 0 zE) (rW (x.U.getD 1 zE) b):=by
 rw[Qx,SM,b5I h,b5I h2,b5I h3,b5Q h7];rw[eL SM id zE x.U 0 (by have:=g.len;omega),eL SM id zE x.U 1 (by have:=g.len;omega)];rfl
def TY(x b:J)(h:¬ (x.aj=1\/b.aj=1))(h2:¬ x.aj=2)(h3:¬ b.aj=2)(h7:¬ x.aj=7):rW x b=J.mk 7 0 [x,b]:=by rw[Qx,SM,b5I h,b5I h2,b5I h3,b5I h7]
def Vt:∀ (N:Nat) (x:J),bG x<N->aF x=true->∀ b,aF b=true->a3A x b (rW x b)
 | 0,x,h,_=>by omega
 | N+1,x,hN,h=>by
  intro b hb;have hx:=Jd x;have Z3:=Jd b;by_cases h1:x.aj=1\/b.aj=1
  .rw[TT x b h1];exact⟨B8,by rw[FO];omega⟩
  by_cases h2:x.aj=2
  .rw[TU x b h1 h2];exact⟨hb,by omega⟩
  by_cases h3:b.aj=2
  .rw[TW x b h1 h2 h3];exact⟨h,by omega⟩
  by_cases h7:x.aj=7
  .have g:=cH x h (.inr h7);rw[TX x b h1 h2 h3 h7 g];have r:=Vt N (x.U.getD 1 zE) (by have:=g.l1;omega) g.g1 b hb;have q:=Vt N (x.U.getD 0 zE) (by have:=g.l0;omega) g.g0 _ r.g;exact⟨q.g,by have:=q.n;have:=r.n;have:=g.nd;omega⟩
  .rw[TY x b h1 h2 h3 h7];exact⟨eM x b 7 h hb (.inr rfl),by rw[lN];omega⟩
def Nt(a:J):J:=if bj a=true then J.mk 2 0 [] else if a.aj=8 then a else J.mk 8 0 [a]
def b2b(a:J)(h:aF a=true):aF (Nt a)=true/\au (Nt a)<=au a+1:=by
 have:=Jd a;unfold Nt;split
 .exact⟨Mr,by rw[FO];omega⟩
 .split
  .exact⟨h,by omega⟩
  .exact⟨ZY a h,by rw[Yq];omega⟩
noncomputable def tdF(x:J)(ys:List J):J :=
 if x.aj=6 then Tl (ys.getD 0 x) (ys.getD 1 x) else if x.aj=7 then rW (ys.getD 0 x) (ys.getD 1 x) else if x.aj=8 then Nt (ys.getD 0 x) else x
noncomputable def gM(x:J):J:=y9 tdF x
def Y2(x:J)(i:Nat)(h:i<x.U.length):(iR tdF x.U).getD i x=gM (x.U.getD i zE):=eL _ _ _ _ i h
def a6k(x:J)(h:x.aj=6)(b:B2 x):gM x=Tl (gM (x.U.getD 0 zE)) (gM (x.U.getD 1 zE)):=by
 rw[gM,kp];simp only[tdF,h];rw[Y2 x 0 (by have:=b.len;omega),Y2 x 1 (by have:=b.len;omega)];rfl
def a6l(x:J)(h:x.aj=7)(b:B2 x):gM x=rW (gM (x.U.getD 0 zE)) (gM (x.U.getD 1 zE)):=by
 rw[gM,kp];simp only[tdF,h];rw[Y2 x 0 (by have:=b.len;omega),Y2 x 1 (by have:=b.len;omega)];rfl
def a6m(x:J)(h:x.aj=8)(b:B1 x):gM x=Nt (gM (x.U.getD 0 zE)):=by
 rw[gM,kp];simp only[tdF,h];rw[Y2 x 0 (by have:=b.len;omega)];rfl
def a6n(x:J)(h6:¬ x.aj=6)(h7:¬ x.aj=7)(h8:¬ x.aj=8):gM x=x:=by
 rw[gM,kp];simp[tdF,h6,h7,h8]
structure a8O(x r:J):Prop where
 g:aF r=true
 n:au r<=au x
def Nw:∀ (N:Nat) (x:J),bG x<N->aF x=true->a8O x (gM x)
 | 0,x,h,_=>by omega
 | N+1,x,hN,h=>by
  by_cases h6:x.aj=6
  .have b:=cH x h (.inl h6);rw[a6k x h6 b];have p:=Nw N (x.U.getD 0 zE) (by have:=b.l0;omega) b.g0;have q:=Nw N (x.U.getD 1 zE) (by have:=b.l1;omega) b.g1;have r:=b2e _ _ p.g q.g;exact⟨r.g,by have:=r.n;have:=p.n;have:=q.n;have:=b.nd;omega⟩
  by_cases h7:x.aj=7
  .have b:=cH x h (.inr h7);rw[a6l x h7 b];have p:=Nw N (x.U.getD 0 zE) (by have:=b.l0;omega) b.g0;have q:=Nw N (x.U.getD 1 zE) (by have:=b.l1;omega) b.g1;have r:=Vt _ _ (b6g _) p.g _ q.g;exact⟨r.g,by have:=r.n;have:=p.n;have:=q.n;have:=b.nd;omega⟩
  by_cases h8:x.aj=8
  .have b:=jf x h (.inr h8);rw[a6m x h8 b];have p:=Nw N (x.U.getD 0 zE) (by have:=b.l0;omega) b.g0;have r:=b2b _ p.g;exact⟨r.1,by have:=r.2;have:=p.n;have:=b.nd;omega⟩
  .rw[a6n x h6 h7 h8];exact⟨h,b6k _⟩
def F6(x:J)(h:aF x=true):a8O x (gM x):=Nw _ x (b6g _) h
def dtT(x b:J)(h:aF x=true)(hb:aF b=true):a3A x b (rW x b):=Vt _ x (b6g _) h b hb
def Gs(x:J)(h:au x<=9000):ep x<=1048576:=by have:=UO x;omega
def a0X(x:J)(h:aF x=true)(hn:au x<=9000):(aX x).length<=1000000:=by have:=sZ _ x (b6g _) h;omega
open Go.RowKit Go.Proofs
def b4m{w0 w:World}{S:Nat->Prop}(hS:pO w0 S)(hb:Below w0.heap.size w0 w){d:D}{cs:List Value}(r:Rd w0 S d cs):Rd w S d cs:=Rd.keep (λ _ h=>h) (λ b h=>hb.block b (hS.1 b h)) _ r
def Qf{B:Nat}{w w':World}(h:bX (λ _=>False) w w')(hB:B<=w.heap.size):Below B w w':=⟨h.os,h.tape,h.output,h.size,λ k hk=>h.block k (by omega) id⟩
structure WW(q:Nat)(v v':Value)(w w':World):Prop where
 os:w'.os=w.os
 tape:w'.tape=w.tape
 output:w'.output=w.output
 size:w.heap.size<=w'.heap.size
 block:∀ k,k<w.heap.size->k≠q->v.ownBlock≠some k->w'.heap[k]?=w.heap[k]?
 own:∀ k,v'.ownBlock=some k->v.ownBlock=some k\/w.heap.size<=k
def WW.trans{q:Nat}{v v' v'':Value}{w w' To:World}(h:WW q v v' w w')(g:WW q v' v'' w' To):WW q v v'' w To:=by
 refine⟨g.os.trans h.os,g.tape.trans h.tape,g.output.trans h.output,b7g h.size g.size,λ k h1 h2 h3=>?_,λ k hk=>?_⟩
 .rw[g.block k (b6a h1 h.size) h2 λ e=>?_,h.block k h1 h2 h3];rcases h.own k e with q|q
  .exact h3 q
  .omega
 .rcases g.own k hk with q|q
  .exact h.own k q
  .exact .inr (b7g h.size q)
def WW.below{q B:Nat}{v v':Value}{w w':World}(h:WW q v v' w w')(hB:B<=w.heap.size)(hq:B<=q)(hv:∀ k,v.ownBlock=some k->B<=k):Below B w w' :=
 ⟨h.os,h.tape,h.output,h.size,λ k hk=>h.block k (by omega) (by omega) λ e=>by have:=hv k e;omega⟩
def WW.same{q:Nat}{v:Value}{w w':World}(h:bX (λ _=>False) w w'):WW q v v w w':=⟨h.os,h.tape,h.output,h.size,λ k hk _ _=>h.block k hk id,λ k e => .inl e⟩
structure LvX(w0:World)(S:Nat->Prop)(q:Nat)(w:World)(v:Value)(ys:List J)(L:List Value):Prop where
 er:Below w0.heap.size w0 w
 q0:w0.heap.size<=q
 var:w.heap[q]?=some (.cells #[v] 30 (0,0))
 own:w.ownsRow w0.heap.size 32 3 v ys.length L
 rd:dP w0 S (ys.map J.aL) L
 ne:v.ownBlock≠some q
 nn:v ≠ .slice none 0 0
def LvX.lt{w0:World}{S:Nat->Prop}{q:Nat}{w:World}{v:Value}{ys:List J}{L:List Value}(h:LvX w0 S q w v ys L):q<w.heap.size:=cN h.var
def LvX.keep{w0:World}{S:Nat->Prop}{q:Nat}{w w':World}{v:Value}{ys:List J}{L:List Value}(h:LvX w0 S q w v ys L)(hk:bX (λ _=>False) w w'):LvX w0 S q w' v ys L :=
 ⟨h.er.trans (Qf hk h.er.size),h.q0,(hk.block q h.lt id).trans h.var,h.own.kept (row:=none) ⟨hk.os,hk.tape,hk.output,hk.size,λ k h1 _=>hk.block k h1 id⟩ (by cases hv:v.ownBlock<;>simp),h.rd,h.ne,h.nn⟩
def Xs(ys:List J):∀ d∈ys.map J.aL,d.size=3:=λ d hd=>by
 obtain⟨y,_,rfl⟩:=b5N.1 hd;cases y;rfl
def a5J{w0:World}{S:Nat->Prop}{ys:List J}{L:List Value}{w:World}{g:Nat}{cur:Array Value}(hg:w.heap[g]?=some (.cells cur 32 (0,0)))(ht:cur.toList.take (ys.length * 3)=L)(hr:dP w0 S (ys.map J.aL) L)
  (k:Nat) (y:J) (hy:ys[k]?=some y):∃ c0 c1 c2,bP w g (k * 3) [c0,c1,c2]/\Rd w0 S y.aL [c0,c1,c2]:=by
 have hk:k<ys.length:=(b6o.1 hy).1;have r:=dP.at_ (n:=3) _ hr (Xs ys) k y.aL (by simp[hy]);have hl:=dP.length (n:=3) _ hr (Xs ys);rw[b6G] at hl;have h3:((L.drop (k * 3)).take 3).length=3:=by rw[b6T,b7e];omega
 match hm:(L.drop (k * 3)).take 3,h3 with
 | [c0,c1,c2],_ =>
  rw[hm] at r;refine⟨c0,c1,c2,λ j v hj=>?_,r⟩;rw[<-hm] at hj;have hj3:j<3:=by have:=(b6o.1 hj).1;omega
  rw[List.getElem?_take_of_lt hj3,List.getElem?_drop,<-ht,List.getElem?_take_of_lt (by omega)] at hj;rw[cell_of_row w g (k * 3+j) cur 32 (0,0) hg];simpa using hj
def kN:Value->Nat
 | .int _ k=>k.toNat
 | _=>0
def a8b:(Tryz.prog.info? 32).map (λ i=>(i.zero,i.size,i.bytes))=some (some (.agg #[.int .i64 0, .int .i64 0, .slice none 0 0]),3,40):=by kernel_rfl
def fz0{w:World}{g e j:Nat}{cur:Array Value}(h:w.heap[g]?=some (.cells cur e (0,0))):w.frozen? ⟨g,j,none⟩=false:=by simp[World.frozen?,h]
def strs(ys:List J):List Value:=ys.map λ y => .string ⟨(aX y).toArray⟩
def a4A{w w':World}(h:Below w.heap.size w w'):w.grownBy w' none:=⟨h.os,h.tape,h.output,h.size,λ k h1 _=>h.block k h1⟩
structure SrR(w0:World)(S:Nat->Prop)(B:Nat)(w wr:World)(ys:List J)(gt ct go co:Nat)(Lo:List Value):Prop where
 er:Below B w wr
 t:wr.ownsRow B 9 1 (.slice (some ⟨gt,0,none⟩) ys.length ct) ys.length (strs ys)
 o:wr.ownsRow B 32 3 (.slice (some ⟨go,0,none⟩) ys.length co) ys.length Lo
 rd:dP w0 S (ys.map J.aL) Lo
 ne:gt≠go
def Sx(w0:World)(S Z:Nat->Prop)(w:World):Nat->Prop:=λ b=>S b\/(w0.heap.size<=b/\b<w.heap.size/\¬ Z b)
def a0R{w0 w:World}{S:Nat->Prop}(Z:Nat->Prop)(hS:pO w0 S)(hb:Below w0.heap.size w0 w):pO w (Sx w0 S Z w) :=
 ⟨λ b h=>h.elim (λ h=>b6a (hS.1 b h) hb.size) (λ h=>h.2.1),hS.2.mono (λ _ h => .inl h) λ b h=>hb.block b (hS.1 b h)⟩
def Sk{w0 w w':World}{S Z Z':Nat->Prop}(hS:pO w0 S)(hb:Below w0.heap.size w0 w)(hz:w.heap.size<=w'.heap.size)(hZ0:∀ b,Z b->w0.heap.size<=b)(hk:∀ b,b<w.heap.size->¬ Z b->w'.heap[b]?=w.heap[b]?)(hZ:∀ b,b<w.heap.size->Z' b->Z b){d:D}{cs:List Value}(r:Rd w (Sx w0 S Z w) d cs):Rd w' (Sx w0 S Z' w') d cs :=
 Rd.keep (λ b h=>h.imp id λ h=>⟨h.1,b6a h.2.1 hz,λ q=>h.2.2 (hZ b h.2.1 q)⟩) (λ b h=>by
  rcases h with h|h
  .have:=hS.1 b h;exact hk b (b6a this hb.size) λ q=>by have:=hZ0 b q;omega
  .exact hk b h.2.1 h.2.2) _ r
def YZ{w0 w w':World}{S Z:Nat->Prop}(hS:pO w0 S)(hb:Below w0.heap.size w0 w)(hk:bX (λ _=>False) w w'){d:D}{cs:List Value}(r:Rd w (Sx w0 S Z w) d cs):Rd w' (Sx w0 S Z w') d cs :=
 Rd.keep (λ b h=>h.imp id λ h=>⟨h.1,b6a h.2.1 hk.size,h.2.2⟩) (λ b h=>hk.block b ((a0R Z hS hb).1 b h) id) _ r
def a6f{w0 w:World}{S:Nat->Prop}(Z:Nat->Prop)(hS:pO w0 S)(hb:Below w0.heap.size w0 w){d:D}{cs:List Value}(r:Rd w0 S d cs):Rd w (Sx w0 S Z w) d cs :=
 Rd.keep (λ b h => .inl h) (λ b h=>hb.block b (hS.1 b h)) _ r
def a2t{w0 w w':World}{S S' Z:Nat->Prop}(hS:pO w0 S)(hb:Below w0.heap.size w0 w)(hZ:∀ b,Z b->b<w.heap.size)(hk:bX (λ _=>False) w w')(h1:∀ b,b<w.heap.size->(S' b↔Sx w0 S Z w b))(h2:∀ b,S' b->b<w'.heap.size){d:D}{cs:List Value}(r:Rd w' S' d cs):Rd w' (Sx w0 S Z w') d cs :=
 Rd.keep (λ b h=>by
  rcases b6E b w.heap.size with q|q
  .exact ((h1 b q).1 h).imp id λ h=>⟨h.1,by have:=hk.size;omega,h.2.2⟩
  .exact .inr ⟨by have:=hb.size;omega,h2 b h,λ z=>by have:=hZ b z;omega⟩) (λ _ _=>rfl) _ r
def W2{w:World}{S:Nat->Prop}{x:J}{cs:List Value}(h:Rd w S x.aL cs):∃ (k n:Int) (a:Option Addr) (l c:Nat),cs=[.int .i64 k, .int .i64 n, .slice a l c]:=by
 obtain⟨a,cap,rfl,_⟩:=Bi h;exact⟨_,_,_,_,_,rfl⟩
def DS{w:World}{b t:Nat}{u0 u1 u2:Value}(h:w.heap[b]?=some (.cells #[u0,u1,u2] t (0,0))):(w.cell? ⟨b,0,none⟩=some u0/\w.cell? ⟨b,1,none⟩=some u1/\w.cell? ⟨b,2,none⟩=some u2)/\w.frozen? ⟨b,0,none⟩=false/\w.frozen? ⟨b,1,none⟩=false/\w.frozen? ⟨b,2,none⟩=false :=
 ⟨⟨by simp[World.cell?,h],by simp[World.cell?,h],by simp[World.cell?,h]⟩,fz0 h,fz0 h,fz0 h⟩
def a5Z{w:World}{b t:Nat}{u0 u1 u2:Value}(c0 c1 c2:Value)(h:w.heap[b]?=some (.cells #[u0,u1,u2] t (0,0))):(((w.setCell ⟨b,0,none⟩ c0).setCell ⟨b,1,none⟩ c1).setCell ⟨b,2,none⟩ c2).heap[b]?=some (.cells #[c0,c1,c2] t (0,0)) /\
  ∀ k,k≠b->(((w.setCell ⟨b,0,none⟩ c0).setCell ⟨b,1,none⟩ c1).setCell ⟨b,2,none⟩ c2).heap[k]?=w.heap[k]? :=
 ⟨b9m _ _ _ _ _ _ (b9m _ _ _ _ _ _ (b9m _ _ _ _ _ _ h)),λ k hk=>by rw[b9e _ _ _ _ hk,b9e _ _ _ _ hk,b9e _ _ _ _ hk]⟩
def X3(L:List J)(z:J)(h:0<L.length):wK (L++[z])=J.mk 6 0 [wK L,z]:=by
 match L,h with
 | x::xs,_=>simp[wK,b8t]
def X4(ZS:List J)(k:Nat)(z:J)(h1:1<=k)(hz:ZS[k]?=some z):wK (ZS.take (k+1))=J.mk 6 0 [wK (ZS.take k),z]:=by
 have:=(b6o.1 hz).1;rw[b8N,hz];exact X3 _ z (by rw[b6T];omega)
end
end Go.Proofs.YtlpndogmpcolnaaGreatDoor

namespace Go.Proofs.YtlpndogmpcolnaaGreatDoor
noncomputable section
noncomputable def F0(raw:J):J×Bool:=if 800<au raw then (raw,false) else (gM raw,true)
def YN(x a b:J)(em:Bool):J:=if x.aj=6 then J.mk 6 0 [a,b] else if x.aj=7 then (if em=true then J.mk 6 0 [J.mk 7 0 [a,(x.U.getD 1 zE)],b] else J.mk 7 0 [a,(x.U.getD 1 zE)]) else J.mk 7 0 [a,x]
noncomputable def Tk(a c:Int)(x:J)(rs:List (J×Bool)):J×Bool :=
 if x.aj=4 then (if x.aT=c then J.mk 2 0 [] else J.mk 1 0 [],true)
 else if x.aj=6 then (if ((rs.getD 0 (x,false)).2&&(rs.getD 1 (x,false)).2)=true then F0 (YN x (rs.getD 0 (x,false)).1 (rs.getD 1 (x,false)).1 (fV a (x.U.getD 0 zE))) else (J.mk 1 0 [],false))
 else if x.aj=7 then (if (rs.getD 0 (x,false)).2=true then (if (fV a (x.U.getD 0 zE) && !(rs.getD 1 (x,false)).2)=true then (J.mk 7 0 [(rs.getD 0 (x,false)).1,(x.U.getD 1 zE)],false) else F0 (YN x (rs.getD 0 (x,false)).1 (rs.getD 1 (x,false)).1 (fV a (x.U.getD 0 zE)))) else (J.mk 1 0 [],false))
 else if x.aj=8 then (if (rs.getD 0 (x,false)).2=true then F0 (YN x (rs.getD 0 (x,false)).1 (rs.getD 1 (x,false)).1 (fV a (x.U.getD 0 zE))) else (J.mk 1 0 [],false))
 else (J.mk 1 0 [],true)
noncomputable def bU(a c:Int)(x:J):J×Bool:=y9 (Tk a c) x
def Nq(a c:Int)(x:J):bU a c x=Tk a c x (iR (Tk a c) x.U):=kp _ x
def YT(a c:Int)(x:J)(i:Nat)(h:i<x.U.length):(iR (Tk a c) x.U).getD i (x,false)=bU a c (x.U.getD i zE):=eL _ _ _ _ i h
noncomputable def oO(a c:Int)(x:J):J:=if x.aj=8 then J.mk 7 0 [(bU a c (x.U.getD 0 zE)).1,x] else YN x (bU a c (x.U.getD 0 zE)).1 (bU a c (x.U.getD 1 zE)).1 (fV a (x.U.getD 0 zE))
def Ju(a c:Int)(x:J)(h:x.aj=4)(e:x.aT=c):bU a c x=(J.mk 2 0 [],true):=by rw[Nq,Tk,b5Q h,b5Q e]
def Jt(a c:Int)(x:J)(h:x.aj=4)(e:¬ x.aT=c):bU a c x=(J.mk 1 0 [],true):=by rw[Nq,Tk,b5Q h,b5I e]
def a9I(a c:Int)(x:J)(h:x.aj=6)(g:B2 x):bU a c x=if ((bU a c (x.U.getD 0 zE)).2&&(bU a c (x.U.getD 1 zE)).2)=true then F0 (oO a c x) else (J.mk 1 0 [],false):=by
 rw[Nq,Tk,b5I (by omega),b5Q h,YT a c x 0 (by have:=g.len;omega),YT a c x 1 (by have:=g.len;omega),show oO a c x=_ from b5I (by omega)]
def pK(a c:Int)(x:J)(h:x.aj=6)(g:B2 x)(e:(bU a c (x.U.getD 0 zE)).2=false\/(bU a c (x.U.getD 1 zE)).2=false):bU a c x=(J.mk 1 0 [],false):=by
 rw[a9I a c x h g,b5I];rcases e with e|e<;>rw[e]<;>simp
def a0M(a c:Int)(x:J)(h:x.aj=6)(g:B2 x)(e:(bU a c (x.U.getD 0 zE)).2=true)(e':(bU a c (x.U.getD 1 zE)).2=true):bU a c x=F0 (oO a c x):=by
 rw[a9I a c x h g,b5Q (by rw[e,e'];rfl)]
def a5V(a c:Int)(x:J)(h:x.aj=7)(g:B2 x):bU a c x=if (bU a c (x.U.getD 0 zE)).2=true then (if (fV a (x.U.getD 0 zE) && !(bU a c (x.U.getD 1 zE)).2)=true then (J.mk 7 0 [(bU a c (x.U.getD 0 zE)).1,(x.U.getD 1 zE)],false) else F0 (oO a c x)) else (J.mk 1 0 [],false):=by
 rw[Nq,Tk,b5I (by omega),b5I (by omega),b5Q h,YT a c x 0 (by have:=g.len;omega),YT a c x 1 (by have:=g.len;omega),show oO a c x=_ from b5I (by omega)]
def Jv(a c:Int)(x:J)(h:x.aj=7)(g:B2 x)(e:(bU a c (x.U.getD 0 zE)).2=false):bU a c x=(J.mk 1 0 [],false):=by
 rw[a5V a c x h g,b5I (by rw[e];decide)]
def Jw(a c:Int)(x:J)(h:x.aj=7)(g:B2 x)(e:(bU a c (x.U.getD 0 zE)).2=true)(m:fV a (x.U.getD 0 zE)=true)(e':(bU a c (x.U.getD 1 zE)).2=false):bU a c x=(J.mk 7 0 [(bU a c (x.U.getD 0 zE)).1,(x.U.getD 1 zE)],false):=by
 rw[a5V a c x h g,b5Q e,b5Q (by rw[m,e'];rfl)]
def Np(a c:Int)(x:J)(h:x.aj=7)(g:B2 x)(e:(bU a c (x.U.getD 0 zE)).2=true)(m:fV a (x.U.getD 0 zE)=false\/(bU a c (x.U.getD 1 zE)).2=true):bU a c x=F0 (oO a c x):=by
 rw[a5V a c x h g,b5Q e,b5I];rcases m with m|m<;>rw[m]<;>simp
def a9J(a c:Int)(x:J)(h:x.aj=8)(g:B1 x):bU a c x=if (bU a c (x.U.getD 0 zE)).2=true then F0 (oO a c x) else (J.mk 1 0 [],false):=by
 rw[Nq,Tk,b5I (by omega),b5I (by omega),b5I (by omega),b5Q h,YT a c x 0 (by have:=g.len;omega),show oO a c x=_ from b5Q h,show YN x _ _ _=J.mk 7 0 [_,x] from (b5I (by omega)).trans (b5I (by omega))]
def Jx(a c:Int)(x:J)(h:x.aj=8)(g:B1 x)(e:(bU a c (x.U.getD 0 zE)).2=false):bU a c x=(J.mk 1 0 [],false):=by
 rw[a9J a c x h g,b5I (by rw[e];decide)]
def a0N(a c:Int)(x:J)(h:x.aj=8)(g:B1 x)(e:(bU a c (x.U.getD 0 zE)).2=true):bU a c x=F0 (oO a c x):=by
 rw[a9J a c x h g,b5Q e]
def Se(a c:Int)(x:J)(h4:¬ x.aj=4)(h6:¬ x.aj=6)(h7:¬ x.aj=7)(h8:¬ x.aj=8):bU a c x=(J.mk 1 0 [],true):=by
 rw[Nq,Tk,b5I h4,b5I h6,b5I h7,b5I h8]
def UG(a c:Int)(x:J)(h:x.aj=6):oO a c x=J.mk 6 0 [(bU a c (x.U.getD 0 zE)).1,(bU a c (x.U.getD 1 zE)).1]:=by rw[oO,b5I (by omega),YN,b5Q h]
def Nl(a c:Int)(x:J)(h:x.aj=7)(m:fV a (x.U.getD 0 zE)=true):oO a c x=J.mk 6 0 [J.mk 7 0 [(bU a c (x.U.getD 0 zE)).1,(x.U.getD 1 zE)],(bU a c (x.U.getD 1 zE)).1]:=by rw[oO,b5I (by omega),YN,b5I (by omega),b5Q h,b5Q m]
def Nk(a c:Int)(x:J)(h:x.aj=7)(m:fV a (x.U.getD 0 zE)=false):oO a c x=J.mk 7 0 [(bU a c (x.U.getD 0 zE)).1,(x.U.getD 1 zE)]:=by rw[oO,b5I (by omega),YN,b5I (by omega),b5Q h,b5I (by rw[m];decide)]
def UH(a c:Int)(x:J)(h:x.aj=8):oO a c x=J.mk 7 0 [(bU a c (x.U.getD 0 zE)).1,x]:=by rw[oO,b5Q h]
structure W0(r:J×Bool):Prop where
 g:r.2=true->aF r.1=true
 n:r.2=true->au r.1<=800
def PM(x:J)(h:aF x=true):W0 (F0 x):=by
 unfold F0;split
 .exact⟨nofun,nofun⟩
 .have:=F6 x h;exact⟨λ _=>this.g,λ _=>by have:=this.n;show au (gM x)<=800;omega⟩
structure SpJ(a c:Int)(x:J):Prop where
 e:bU a c x=F0 (oO a c x)
 g:aF (oO a c x)=true
 n:au (oO a c x)<=3000
def Ns(a c:Int):∀ (N:Nat) (x:J),bG x<N->aF x=true->W0 (bU a c x)
 | 0,x,h,_=>by omega
 | N+1,x,hN,h=>by
  have z1:W0 (J.mk 1 0 [],true):=⟨λ _=>B8,λ _=>by decide⟩;have zf:∀ y,W0 (y,false):=λ y=>⟨nofun,nofun⟩;by_cases h4:x.aj=4
  .by_cases e:x.aT=c
   .rw[Ju a c x h4 e];exact⟨λ _=>Mr,λ _=>by decide⟩
   .rw[Jt a c x h4 e];exact z1
  by_cases h6:x.aj=6
  .have g:=cH x h (.inl h6);have p:=Ns a c N (x.U.getD 0 zE) (by have:=g.l0;omega) g.g0;have q:=Ns a c N (x.U.getD 1 zE) (by have:=g.l1;omega) g.g1;rcases b6h (bU a c (x.U.getD 0 zE)).2 with e|e
   .rcases b6h (bU a c (x.U.getD 1 zE)).2 with e'|e'
    .rw[a0M a c x h6 g e e',UG a c x h6];exact PM _ (eM _ _ 6 (p.g e) (q.g e') (.inl rfl))
    .rw[pK a c x h6 g (.inr e')];exact zf _
   .rw[pK a c x h6 g (.inl e)];exact zf _
  by_cases h7:x.aj=7
  .have g:=cH x h (.inr h7);have p:=Ns a c N (x.U.getD 0 zE) (by have:=g.l0;omega) g.g0;have q:=Ns a c N (x.U.getD 1 zE) (by have:=g.l1;omega) g.g1;rcases b6h (bU a c (x.U.getD 0 zE)).2 with e|e
   .have b:=eM _ _ 7 (p.g e) g.g1 (.inr rfl);rcases b6h (fV a (x.U.getD 0 zE)) with m|m
    .rcases b6h (bU a c (x.U.getD 1 zE)).2 with e'|e'
     .rw[Np a c x h7 g e (.inr e'),Nl a c x h7 m];exact PM _ (eM _ _ 6 b (q.g e') (.inl rfl))
     .rw[Jw a c x h7 g e m e'];exact zf _
    .rw[Np a c x h7 g e (.inl m),Nk a c x h7 m];exact PM _ b
   .rw[Jv a c x h7 g e];exact zf _
  by_cases h8:x.aj=8
  .have g:=jf x h (.inr h8);have p:=Ns a c N (x.U.getD 0 zE) (by have:=g.l0;omega) g.g0;rcases b6h (bU a c (x.U.getD 0 zE)).2 with e|e
   .rw[a0N a c x h8 g e,UH a c x h8];exact PM _ (eM _ _ 7 (p.g e) h (.inr rfl))
   .rw[Jx a c x h8 g e];exact zf _
  .rw[Se a c x h4 h6 h7 h8];exact z1
def No(a c:Int)(x:J)(h:aF x=true):W0 (bU a c x):=Ns a c _ x (b6g _) h
def b1W(a c:Int)(x:J)(hg:aF x=true)(hn:au x<=1000)(h:x.aj=6)(e:(bU a c (x.U.getD 0 zE)).2=true)(e':(bU a c (x.U.getD 1 zE)).2=true):SpJ a c x:=by
 have g:=cH x hg (.inl h);have p:=No a c _ g.g0;have q:=No a c _ g.g1;refine⟨a0M a c x h g e e',?_,?_⟩
 .rw[UG a c x h];exact eM _ _ 6 (p.g e) (q.g e') (.inl rfl)
 .rw[UG a c x h,lN];have:=p.n e;have:=q.n e';omega
def a5U(a c:Int)(x:J)(hg:aF x=true)(hn:au x<=1000)(h:x.aj=7)(e:(bU a c (x.U.getD 0 zE)).2=true)(m:fV a (x.U.getD 0 zE)=false\/(fV a (x.U.getD 0 zE)=true/\(bU a c (x.U.getD 1 zE)).2=true)):SpJ a c x:=by
 have g:=cH x hg (.inr h);have p:=No a c _ g.g0;have q:=No a c _ g.g1;have b:=eM _ _ 7 (p.g e) g.g1 (.inr rfl);have nd:=g.nd;have n0:=p.n e;rcases m with m|⟨m,e'⟩
 .refine⟨Np a c x h g e (.inl m),?_,?_⟩
  .rw[Nk a c x h m];exact b
  .rw[Nk a c x h m,lN];omega
 .refine⟨Np a c x h g e (.inr e'),?_,?_⟩
  .rw[Nl a c x h m];exact eM _ _ 6 b (q.g e') (.inl rfl)
  .rw[Nl a c x h m,lN,lN];have:=q.n e';omega
def b1X(a c:Int)(x:J)(hg:aF x=true)(hn:au x<=1000)(h:x.aj=8)(e:(bU a c (x.U.getD 0 zE)).2=true):SpJ a c x:=by
 have g:=jf x hg (.inr h);have p:=No a c _ g.g0;refine⟨a0N a c x h g e,?_,?_⟩
 .rw[UH a c x h];exact eM _ _ 7 (p.g e) hg (.inr rfl)
 .rw[UH a c x h,lN];have:=p.n e;omega
def b1Z(a c:Int)(x:J)(j:SpJ a c x)(h:800<au (oO a c x)):bU a c x=(oO a c x,false):=by rw[j.e,F0,b5Q h]
def b1Y(a c:Int)(x:J)(j:SpJ a c x)(h:¬ 800<au (oO a c x)):bU a c x=(gM (oO a c x),true):=by rw[j.e,F0,b5I h]
abbrev Wd:=List (Int×Int)
def Z8:Wd->Int->Int
 | [],t=>t
 | p::_,_=>p.1
def KF:∀ (u v:Wd) (t:Int),Z8 (u++v) t=Z8 u (Z8 v t)
 | [],_,_=>rfl
 | _::_,_,_=>rfl
def jq(M N:Wd->Int->Prop)(w:Wd)(t:Int):Prop:=∃ u v,w=u++v/\M u (Z8 v t)/\N v t
inductive nH(M:Wd->Int->Prop):Wd->Int->Prop
 | nil (t:Int):nH M [] t
 | cons {u v:Wd} {t:Int} (h:M u (Z8 v t)) (k:nH M v t):nH M (u++v) t
def noW:Wd->Int->Prop:=λ _ _=>False
def Pe(x:J)(fs:List (Wd->Int->Prop))(w:Wd)(t:Int):Prop :=
 (x.aj=4->∃ a,w=[(a,x.aT)])/\(x.aj=6->fs.getD 0 noW w t\/fs.getD 1 noW w t)/\(x.aj=7->jq (fs.getD 0 noW) (fs.getD 1 noW) w t)/\(x.aj=8->nH (fs.getD 0 noW) w t) /\
  (¬ (x.aj=4\/x.aj=6\/x.aj=7\/x.aj=8)->w=[]/\cv t x=true)
def cM(x:J):Wd->Int->Prop:=y9 Pe x
def Fu(x:J)(w:Wd)(t:Int):cM x w t↔Pe x (iR Pe x.U) w t:=by rw[cM,kp]
def Yj(x:J)(i:Nat)(h:i<x.U.length):(iR Pe x.U).getD i noW=cM (x.U.getD i zE):=eL _ _ _ _ i h
def a9D{x:J}(h:x.aj=4)(w:Wd)(t:Int):cM x w t↔∃ a,w=[(a,x.aT)]:=by
 rw[Fu,Pe];exact⟨λ q=>q.1 h,λ q=>⟨λ _=>q,λ e=>by omega,λ e=>by omega,λ e=>by omega,λ e=>absurd (.inl h) e⟩⟩
def Yf{x:J}(h:x.aj=6)(b:B2 x)(w:Wd)(t:Int):cM x w t↔cM (x.U.getD 0 zE) w t\/cM (x.U.getD 1 zE) w t:=by
 rw[Fu,Pe,Yj x 0 (by have:=b.len;omega),Yj x 1 (by have:=b.len;omega)];exact⟨λ q=>q.2.1 h,λ q=>⟨λ e=>by omega,λ _=>q,λ e=>by omega,λ e=>by omega,λ e=>absurd (.inr (.inl h)) e⟩⟩
def Yg{x:J}(h:x.aj=7)(b:B2 x)(w:Wd)(t:Int):cM x w t↔jq (cM (x.U.getD 0 zE)) (cM (x.U.getD 1 zE)) w t:=by
 rw[Fu,Pe,Yj x 0 (by have:=b.len;omega),Yj x 1 (by have:=b.len;omega)];exact⟨λ q=>q.2.2.1 h,λ q=>⟨λ e=>by omega,λ e=>by omega,λ _=>q,λ e=>by omega,λ e=>absurd (.inr (.inr (.inl h))) e⟩⟩
def Yh{x:J}(h:x.aj=8)(b:B1 x)(w:Wd)(t:Int):cM x w t↔nH (cM (x.U.getD 0 zE)) w t:=by
 rw[Fu,Pe,Yj x 0 (by have:=b.len;omega)];exact⟨λ q=>q.2.2.2.1 h,λ q=>⟨λ e=>by omega,λ e=>by omega,λ e=>by omega,λ _=>q,λ e=>absurd (.inr (.inr (.inr h))) e⟩⟩
def RC{x:J}(h:¬ (x.aj=4\/x.aj=6\/x.aj=7\/x.aj=8))(w:Wd)(t:Int):cM x w t↔w=[]/\cv t x=true:=by
 rw[Fu,Pe];exact⟨λ q=>q.2.2.2.2 h,λ q=>⟨λ e=>absurd (.inl e) h,λ e=>absurd (.inr (.inl e)) h,λ e=>absurd (.inr (.inr (.inl e))) h,λ e=>absurd (.inr (.inr (.inr e))) h,λ _=>q⟩⟩
def Ye{x:J}(g:aF x=true)(h:x.aj=1)(w:Wd)(t:Int):¬ cM x w t:=λ q=>by
 have:=((RC (by omega) w t).1 q).2;rw[(yI t x (VG x g (.inl h))).1 h] at this;cases this
def a5l{x:J}(g:aF x=true)(h:x.aj=2)(w:Wd)(t:Int):cM x w t↔w=[]:=by
 rw[RC (by omega),(yI t x (VG x g (.inr (.inl h)))).2.1 h];exact⟨λ q=>q.1,λ q=>⟨q,rfl⟩⟩
def jT(n:Int)(p q:J)(w:Wd)(t:Int):cM (J.mk (6:Int) n [p,q]) w t↔cM p w t\/cM q w t:=by
 rw[Fu,Pe];exact⟨λ h=>h.2.1 rfl,λ h=>⟨λ e=>absurd e (by simp),λ _=>h,λ e=>absurd e (by simp),λ e=>absurd e (by simp),λ e=>absurd (.inr (.inl rfl)) e⟩⟩
def iF(n:Int)(p q:J)(w:Wd)(t:Int):cM (J.mk (7:Int) n [p,q]) w t↔jq (cM p) (cM q) w t:=by
 rw[Fu,Pe];exact⟨λ h=>h.2.2.1 rfl,λ h=>⟨λ e=>absurd e (by simp),λ e=>absurd e (by simp),λ _=>h,λ e=>absurd e (by simp),λ e=>absurd (.inr (.inr (.inl rfl))) e⟩⟩
def RD(n:Int)(p:J)(w:Wd)(t:Int):cM (J.mk (8:Int) n [p]) w t↔nH (cM p) w t:=by
 rw[Fu,Pe];exact⟨λ h=>h.2.2.2.1 rfl,λ h=>⟨λ e=>absurd e (by simp),λ e=>absurd e (by simp),λ e=>absurd e (by simp),λ _=>h,λ e=>absurd (.inr (.inr (.inr rfl))) e⟩⟩
def nh(w:Wd)(t:Int):¬ cM (J.mk (1:Int) (0:Int) []) w t:=Ye B8 rfl w t
def Cu(w:Wd)(t:Int):cM (J.mk (2:Int) (0:Int) []) w t↔w=[]:=a5l Mr rfl w t
def ia{M M' N N':Wd->Int->Prop}(h:∀ w t,M w t↔M' w t)(k:∀ w t,N w t↔N' w t)(w:Wd)(t:Int):jq M N w t↔jq M' N' w t:=by
 constructor
 .rintro⟨u,v,e,a,b⟩;exact⟨u,v,e,(h _ _).1 a,(k _ _).1 b⟩
 .rintro⟨u,v,e,a,b⟩;exact⟨u,v,e,(h _ _).2 a,(k _ _).2 b⟩
def YW{M M':Wd->Int->Prop}(h:∀ w t,M w t->M' w t){w:Wd}{t:Int}(q:nH M w t):nH M' w t:=by
 induction q with
 | nil t=>exact .nil t
 | cons a _ ih=>exact .cons (h _ _ a) ih
def UM{M M':Wd->Int->Prop}(h:∀ w t,M w t↔M' w t)(w:Wd)(t:Int):nH M w t↔nH M' w t:=⟨YW λ w t=>(h w t).1,YW λ w t=>(h w t).2⟩
def Xh{M N:Wd->Int->Prop}(h:∀ w t,¬ M w t)(w:Wd)(t:Int):¬ jq M N w t:=by rintro⟨u,v,_,a,_⟩;exact h _ _ a
def Xi{M N:Wd->Int->Prop}(h:∀ w t,¬ N w t)(w:Wd)(t:Int):¬ jq M N w t:=by rintro⟨u,v,_,_,a⟩;exact h _ _ a
def TP{M N:Wd->Int->Prop}(h:∀ w t,M w t↔w=[])(w:Wd)(t:Int):jq M N w t↔N w t:=by
 constructor
 .rintro⟨u,v,e,a,b⟩;rw[(h _ _).1 a] at e;rw[e];exact b
 .intro b;exact⟨[],w,rfl,(h _ _).2 rfl,b⟩
def TQ{M N:Wd->Int->Prop}(h:∀ w t,N w t↔w=[])(w:Wd)(t:Int):jq M N w t↔M w t:=by
 constructor
 .rintro⟨u,v,e,a,b⟩;rw[(h _ _).1 b] at e a;rw[e,b6K];exact a
 .intro b;exact⟨w,[],(b6K w).symm,b,(h _ _).2 rfl⟩
def TO(A B C:Wd->Int->Prop)(w:Wd)(t:Int):jq (jq A B) C w t↔jq A (jq B C) w t:=by
 constructor
 .rintro⟨u,v,e,⟨u1,u2,e1,a,b⟩,c⟩;exact⟨u1,u2++v,by rw[e,e1,b6v],by rw[KF];exact a,u2,v,rfl,b,c⟩
 .rintro⟨u,v,e,a,v1,v2,e1,b,c⟩;subst e1;exact⟨u++v1,v2,by rw[e,b6v],⟨u,v1,rfl,by rw[<-KF];exact a,b⟩,c⟩
def a2q{M:Wd->Int->Prop}{u v:Wd}{t:Int}(h:nH M u (Z8 v t))(k:nH M v t):nH M (u++v) t:=by
 suffices ∀ s,nH M u s->s=Z8 v t->nH M (u++v) t from this _ h rfl
 clear h;intro s q;induction q with
 | nil s=>intro _;exact k
 | cons a _ ih =>
  intro e;rw[b6v];refine .cons ?_ (ih e);subst e;rw[KF];exact a
def a2r{M:Wd->Int->Prop}{w:Wd}{t:Int}(h:M w t):nH M w t:=by
 have:=nH.cons (u:=w) (v:=[]) (t:=t) h (.nil t);rwa [b6K] at this
def b2c{M:Wd->Int->Prop}(w:Wd)(t:Int):nH (nH M) w t↔nH M w t:=by
 constructor
 .intro q;induction q with
  | nil t=>exact .nil t
  | cons a _ ih=>exact a2q a ih
 .exact a2r
def b4u{M:Wd->Int->Prop}(h:∀ w t,M w t->w=[])(w:Wd)(t:Int):nH M w t↔w=[]:=by
 constructor
 .intro q;induction q with
  | nil t=>rfl
  | cons a _ ih=>rw[h _ _ a,ih];rfl
 .rintro rfl;exact .nil t
def K6:∀ (N:Nat) (x:J),bG x<N->aF x=true->∀ a,cM x [] a↔fV a x=true
 | 0,x,h,_=>by omega
 | N+1,x,hN,h=>by
  intro a;by_cases h4:x.aj=4
  .rw[a9D h4,<-a9e a x h4];exact⟨λ ⟨_,q⟩=>(by cases q),λ q=>(by cases q)⟩
  by_cases h6:x.aj=6
  .have b:=cH x h (.inl h6);rw[Yf h6 b,a9f a x h6 b,b7d,K6 N (x.U.getD 0 zE) (by have:=b.l0;omega) b.g0,K6 N (x.U.getD 1 zE) (by have:=b.l1;omega) b.g1]
  by_cases h7:x.aj=7
  .have b:=cH x h (.inr h7);rw[Yg h7 b,a9g a x h7 b,b5M,<-K6 N (x.U.getD 0 zE) (by have:=b.l0;omega) b.g0,<-K6 N (x.U.getD 1 zE) (by have:=b.l1;omega) b.g1];constructor
   .rintro⟨u,v,e,p,q⟩;have:=b9K.1 e.symm;rw[this.1,this.2] at p;rw[this.2] at q;exact⟨p,q⟩
   .rintro⟨p,q⟩;exact⟨[],[],rfl,p,q⟩
  by_cases h8:x.aj=8
  .rw[Yh h8 (jf x h (.inr h8)),<-a9h a x h8];exact⟨λ _=>rfl,λ _ => .nil a⟩
  .rw[RC (by omega),a1y a x h4 h6 h7 h8];exact⟨λ q=>q.2,λ q=>⟨rfl,q⟩⟩
def meN{x:J}(h:aF x=true)(a:Int):cM x [] a↔fV a x=true:=K6 _ x (b6g _) h a
def Ev:∀ (N:Nat) (x:J),bG x<N->aF x=true->bj x=true->∀ w t,cM x w t->w=[]
 | 0,x,h,_,_=>by omega
 | N+1,x,hN,h,hc=>by
  intro w t q;have hk:=hc;rw[oi,b5M] at hk;have zx:∀ i,i<x.U.length->bj (x.U.getD i zE)=true:=λ i hi=>zW bj zE x.U i hi hk.2;by_cases h4:x.aj=4
  .rw[h4] at hk;exact absurd hk.1 (by decide)
  by_cases h6:x.aj=6
  .have b:=cH x h (.inl h6);have l:=b.len;rcases (Yf h6 b w t).1 q with q|q
   .exact Ev N (x.U.getD 0 zE) (by have:=b.l0;omega) b.g0 (zx 0 (by omega)) w t q
   .exact Ev N (x.U.getD 1 zE) (by have:=b.l1;omega) b.g1 (zx 1 (by omega)) w t q
  by_cases h7:x.aj=7
  .have b:=cH x h (.inr h7);have l:=b.len;obtain⟨u,v,e,p,r⟩:=(Yg h7 b w t).1 q;rw[e,Ev N (x.U.getD 0 zE) (by have:=b.l0;omega) b.g0 (zx 0 (by omega)) _ _ p,Ev N (x.U.getD 1 zE) (by have:=b.l1;omega) b.g1 (zx 1 (by omega)) _ _ r];rfl
  by_cases h8:x.aj=8
  .rw[h8] at hk;exact absurd hk.1 (by decide)
  .exact ((RC (by omega) w t).1 q).1
def X5(w:Wd)(t:Int):∀ (xs:List J) (o:J),cM (xs.foldl (λ o y=>J.mk 6 0 [o,y]) o) w t↔cM o w t\/∃ y∈xs,cM y w t
 | [],o=>by simp
 | x::xs,o=>by
  rw[b7C,X5 w t xs,jT];simp only[b5X,exists_eq_or_imp,c0i]
def a2U(w:Wd)(t:Int):∀ (xs:List J),cM (wK xs) w t↔∃ y∈xs,cM y w t
 | []=>by
  show cM (J.mk 1 0 []) w t↔_;exact⟨λ q=>absurd q (nh w t),λ ⟨_,q,_⟩=>(by cases q)⟩
 | x::xs=>by
  show cM (xs.foldl (λ o y=>J.mk 6 0 [o,y]) x) w t↔_;rw[X5 w t xs x];simp only[b5X,exists_eq_or_imp]
def WH(w:Wd)(t:Int):∀ (N:Nat) (x:J),bG x<N->aF x=true->∀ out,(∃ y∈kI x out,cM y w t)↔cM x w t\/∃ y∈out,cM y w t
 | 0,x,h,_=>by omega
 | N+1,x,hN,h=>by
  intro out;by_cases h1:x.aj=1
  .rw[a5Q x out h1];exact⟨.inr,λ q=>q.elim (λ q=>absurd q (Ye h h1 w t)) id⟩
  by_cases h6:x.aj=6
  .have b:=cH x h (.inl h6);rw[a5R x out h6 b,WH w t N (x.U.getD 1 zE) (by have:=b.l1;omega) b.g1,WH w t N (x.U.getD 0 zE) (by have:=b.l0;omega) b.g0,Yf h6 b,<-c0i,or_comm (a:=cM (x.U.getD 1 zE) w t)]
  rcases b6h (out.any (λ y=>ke y x)) with e|e
  .rw[a5T x out h1 h6 e];refine⟨.inr,λ q=>q.elim (λ q=>?_) id⟩;rw[b9z] at e;obtain⟨y,hy,ey⟩:=e;rw[Av] at ey;exact⟨y,hy,ey ▸ q⟩
  .rw[a5S x out h1 h6 e];simp only[b5F,b5Z];constructor
   .rintro⟨y,hy|rfl,q⟩
    .exact .inr ⟨y,hy,q⟩
    .exact .inl q
   .rintro (q|⟨y,hy,q⟩)
    .exact⟨x, .inr rfl,q⟩
    .exact⟨y, .inl hy,q⟩
def b2d{a b:J}(ha:aF a=true)(hb:aF b=true)(w:Wd)(t:Int):cM (Tl a b) w t↔cM a w t\/cM b w t:=by
 unfold Tl;rw[a2U];have hs:∀ y,y∈Sf (kI b (kI a []))↔y∈kI b (kI a []):=λ y=>by
  have:=(a0O (kI b (kI a [])) []).1 y;unfold Sf;rw[this];exact⟨λ q=>q.elim id (λ q=>by cases q), .inl⟩
 simp only[hs];rw[WH w t _ b (b6g _) hb,WH w t _ a (b6g _) ha];constructor
 .rintro (q|q|⟨_,q,_⟩)
  .exact .inr q
  .exact .inl q
  .cases q
 .rintro (q|q)
  .exact .inr (.inl q)
  .exact .inl q
def b0T(b:J)(N:Nat):∀ (x:J),bG x<N->aF x=true->∀ b,aF b=true->∀ w t,cM (rW x b) w t↔jq (cM x) (cM b) w t:=by
 induction N with
 | zero=>intro x h;omega
 | succ N ih =>
  intro x hN h b hb w t;by_cases h1:x.aj=1\/b.aj=1
  .rw[TT x b h1];refine⟨λ q=>absurd q (nh w t),λ q=>?_⟩;rcases h1 with h1|h1
   .exact absurd q (Xh (Ye h h1) w t)
   .exact absurd q (Xi (Ye hb h1) w t)
  by_cases h2:x.aj=2
  .rw[TU x b h1 h2,TP (a5l h h2)]
  by_cases h3:b.aj=2
  .rw[TW x b h1 h2 h3,TQ (a5l hb h3)]
  by_cases h7:x.aj=7
  .have g:=cH x h (.inr h7);rw[TX x b h1 h2 h3 h7 g,ih (x.U.getD 0 zE) (by have:=g.l0;omega) g.g0 _ (dtT _ _ g.g1 hb).g,ia (λ _ _=>b7k) (ih (x.U.getD 1 zE) (by have:=g.l1;omega) g.g1 b hb),<-TO];exact ia (λ w t=>(Yg h7 g w t).symm) (λ _ _=>b7k) w t
  .rw[TY x b h1 h2 h3 h7,iF]
def a8G{a:J}(h:aF a=true)(w:Wd)(t:Int):cM (Nt a) w t↔nH (cM a) w t:=by
 unfold Nt;split
 .rename_i hc;rw[Cu,b4u (Ev _ a (b6g _) h hc)]
 .split
  .rename_i h8;have e:=Yh h8 (jf a h (.inr h8));rw[e,UM e,b2c]
  .rw[RD]
def Nv:∀ (N:Nat) (x:J),bG x<N->aF x=true->∀ w t,cM (gM x) w t↔cM x w t
 | 0,x,h,_=>by omega
 | N+1,x,hN,h=>by
  intro w t;by_cases h6:x.aj=6
  .have b:=cH x h (.inl h6);rw[a6k x h6 b,b2d (F6 _ b.g0).g (F6 _ b.g1).g,Nv N (x.U.getD 0 zE) (by have:=b.l0;omega) b.g0,Nv N (x.U.getD 1 zE) (by have:=b.l1;omega) b.g1,Yf h6 b]
  by_cases h7:x.aj=7
  .have b:=cH x h (.inr h7);rw[a6l x h7 b,b0T zE _ _ (b6g _) (F6 _ b.g0).g _ (F6 _ b.g1).g,ia (Nv N (x.U.getD 0 zE) (by have:=b.l0;omega) b.g0) (Nv N (x.U.getD 1 zE) (by have:=b.l1;omega) b.g1),Yg h7 b]
  by_cases h8:x.aj=8
  .have b:=jf x h (.inr h8);rw[a6m x h8 b,a8G (F6 _ b.g0).g,UM (Nv N (x.U.getD 0 zE) (by have:=b.l0;omega) b.g0),Yh h8 b]
  .rw[a6n x h6 h7 h8]
def tdM{x:J}(h:aF x=true)(w:Wd)(t:Int):cM (gM x) w t↔cM x w t:=Nv _ x (b6g _) h w t
def dW(a c:Int)(M:Wd->Int->Prop):Wd->Int->Prop:=λ w t=>M ((a,c)::w) t
def a4b(a c:Int)(M N:Wd->Int->Prop)(w:Wd)(t:Int):jq M N ((a,c)::w) t↔(M [] a/\N ((a,c)::w) t)\/jq (dW a c M) N w t:=by
 constructor
 .rintro⟨u,v,e,p,q⟩;cases u with
  | nil =>
   rw[b6B] at e;subst e;exact .inl ⟨p,q⟩
  | cons z u =>
   rw[b6x,b5J] at e;obtain⟨rfl,e⟩:=e;exact .inr ⟨u,v,e,p,q⟩
 .rintro (⟨p,q⟩|⟨u,v,e,p,q⟩)
  .exact⟨[],_,rfl,p,q⟩
  .exact⟨(a,c)::u,v,by rw[e];rfl,p,q⟩
def a6c(a c:Int)(M:Wd->Int->Prop)(w:Wd)(t:Int):nH M ((a,c)::w) t↔jq (dW a c M) (nH M) w t:=by
 constructor
 .intro q;suffices ∀ z s,nH M z s->∀ w,z=(a,c)::w->jq (dW a c M) (nH M) w s from this _ _ q w rfl
  intro z s q;induction q with
  | nil s=>intro w e;cases e
  | @cons u v s p k ih =>
   intro w e;cases u with
   | nil=>exact ih w e
   | cons z u =>
    rw[b6x,b5J] at e;obtain⟨rfl,e⟩:=e;exact⟨u,v,e.symm,p,k⟩
 .rintro⟨u,v,e,p,q⟩;rw[e];exact nH.cons (u:=(a,c)::u) p q
def Nr(a c:Int):∀ (N:Nat) (x:J),bG x<N->aF x=true->(bU a c x).2=true->∀ w t,cM (bU a c x).1 w t↔cM x ((a,c)::w) t
 | 0,x,h,_,_=>by omega
 | N+1,x,hN,h,ht=>by
  intro w t;have spf:∀ {y:J},aF y=true->(F0 y).2=true->(cM (F0 y).1 w t↔cM y w t):=λ {y} g q=>by
   unfold F0 at q ⊢;split at q
   .cases q
   .rename_i hn;rw[b5I hn];exact tdM g w t
  by_cases h4:x.aj=4
  .rw[a9D h4];by_cases e:x.aT=c
   .rw[Ju a c x h4 e,Cu];constructor
    .rintro rfl;exact⟨a,by rw[e]⟩
    .rintro⟨b,q⟩;simp only[b5J] at q;exact q.2
   .rw[Jt a c x h4 e];refine⟨λ q=>absurd q (nh w t),λ ⟨b,q⟩=>?_⟩;simp only[b5J,b5H] at q;exact absurd q.1.2.symm e
  by_cases h6:x.aj=6
  .have g:=cH x h (.inl h6);have z:(bU a c (x.U.getD 0 zE)).2=true/\(bU a c (x.U.getD 1 zE)).2=true:=by
    rcases b6h (bU a c (x.U.getD 0 zE)).2 with e|e
    .rcases b6h (bU a c (x.U.getD 1 zE)).2 with e'|e'
     .exact⟨e,e'⟩
     .rw[pK a c x h6 g (.inr e')] at ht;cases ht
    .rw[pK a c x h6 g (.inl e)] at ht;cases ht
   rw[a0M a c x h6 g z.1 z.2] at ht ⊢;have gd:aF (oO a c x)=true:=by rw[UG a c x h6];exact eM _ _ 6 ((No a c _ g.g0).g z.1) ((No a c _ g.g1).g z.2) (.inl rfl)
   rw[spf gd ht,UG a c x h6,jT,Nr a c N (x.U.getD 0 zE) (by have:=g.l0;omega) g.g0 z.1,Nr a c N (x.U.getD 1 zE) (by have:=g.l1;omega) g.g1 z.2,Yf h6 g]
  by_cases h7:x.aj=7
  .have g:=cH x h (.inr h7);have e:(bU a c (x.U.getD 0 zE)).2=true:=by
    rcases b6h (bU a c (x.U.getD 0 zE)).2 with e|e
    .exact e
    .rw[Jv a c x h7 g e] at ht;cases ht
   have i0:=Nr a c N (x.U.getD 0 zE) (by have:=g.l0;omega) g.g0 e;have b:=eM _ _ 7 ((No a c _ g.g0).g e) g.g1 (.inr rfl);rw[Yg h7 g,a4b,meN g.g0];have i7:∀ w t,cM (J.mk 7 0 [(bU a c (x.U.getD 0 zE)).1,(x.U.getD 1 zE)]) w t↔jq (dW a c (cM (x.U.getD 0 zE))) (cM (x.U.getD 1 zE)) w t:=λ w t=>by
    rw[iF];exact ia i0 (λ _ _=>b7k) w t
   rcases b6h (fV a (x.U.getD 0 zE)) with m|m
   .have e':(bU a c (x.U.getD 1 zE)).2=true:=by
     rcases b6h (bU a c (x.U.getD 1 zE)).2 with e'|e'
     .exact e'
     .rw[Jw a c x h7 g e m e'] at ht;cases ht
    rw[Np a c x h7 g e (.inr e')] at ht ⊢;have gd:aF (oO a c x)=true:=by rw[Nl a c x h7 m];exact eM _ _ 6 b ((No a c _ g.g1).g e') (.inl rfl)
    rw[spf gd ht,Nl a c x h7 m,jT,i7,Nr a c N (x.U.getD 1 zE) (by have:=g.l1;omega) g.g1 e',m];exact⟨λ q=>q.elim .inr λ q => .inl ⟨rfl,q⟩,λ q=>q.elim (λ q => .inr q.2) .inl⟩
   .rw[Np a c x h7 g e (.inl m)] at ht ⊢;have gd:aF (oO a c x)=true:=by rw[Nk a c x h7 m];exact b
    rw[spf gd ht,Nk a c x h7 m,i7,m];exact⟨.inr,λ q=>q.elim (λ q=>by cases q.1) id⟩
  by_cases h8:x.aj=8
  .have g:=jf x h (.inr h8);have e:(bU a c (x.U.getD 0 zE)).2=true:=by
    rcases b6h (bU a c (x.U.getD 0 zE)).2 with e|e
    .exact e
    .rw[Jx a c x h8 g e] at ht;cases ht
   rw[a0N a c x h8 g e] at ht ⊢;have gd:aF (oO a c x)=true:=by rw[UH a c x h8];exact eM _ _ 7 ((No a c _ g.g0).g e) h (.inr rfl)
   rw[spf gd ht,UH a c x h8,iF,Yh h8 g,a6c];exact ia (Nr a c N (x.U.getD 0 zE) (by have:=g.l0;omega) g.g0 e) (Yh h8 g) w t
  .rw[Se a c x h4 h6 h7 h8];refine⟨λ q=>absurd q (nh w t),λ q=>?_⟩;have:=((RC (x:=x) (by omega) _ _).1 q).1;cases this
def spM{a c:Int}{x:J}(h:aF x=true)(ht:(bU a c x).2=true)(w:Wd)(t:Int):cM (bU a c x).1 w t↔cM x ((a,c)::w) t:=Nr a c _ x (b6g _) h ht w t
abbrev sW(l r:J):Prop:=∀ w t,cM l w t↔cM r w t
def Yi:∀ (N:Nat) (x:J),bG x<N->bY x=true->∀ w t,cM x w t↔w=[]/\cv t x=true
 | 0,x,h,_=>by omega
 | N+1,⟨k,n,ks⟩,hN,h=>by
  intro w t;have hf:=B6 _ h;have ht:=yI t _ h;have hk:=hf.2.2.2;simp only at hk;by_cases h6:k=6
  .subst h6;obtain⟨l,⟨g0,m0⟩,⟨g1,m1⟩⟩:=hf.2.2.1 (.inl rfl);match ks,l with
   | [p,q],_ =>
    have i0:=Yi N p (by have:bG p<_:=m0;omega) g0;have i1:=Yi N q (by have:bG q<_:=m1;omega) g1;have e:cv t (J.mk 6 n [p,q])=(cv t p||cv t q):=ht.2.2.2.2.1 rfl;rw[jT,i0,i1,e,b7d];constructor
    .rintro (⟨a,b⟩|⟨a,b⟩)
     .exact⟨a, .inl b⟩
     .exact⟨a, .inr b⟩
    .rintro⟨a,b|b⟩
     .exact .inl ⟨a,b⟩
     .exact .inr ⟨a,b⟩
  by_cases h7:k=7
  .subst h7;obtain⟨l,⟨g0,m0⟩,⟨g1,m1⟩⟩:=hf.2.2.1 (.inr rfl);match ks,l with
   | [p,q],_ =>
    have i0:=Yi N p (by have:bG p<_:=m0;omega) g0;have i1:=Yi N q (by have:bG q<_:=m1;omega) g1;have e:cv t (J.mk 7 n [p,q])=(cv t p&&cv t q):=ht.2.2.2.2.2 rfl;rw[iF,e,b5M];constructor
    .rintro⟨u,v,e,a,b⟩;obtain⟨b1,b2⟩:=(i1 _ _).1 b;obtain⟨a1,a2⟩:=(i0 _ _).1 a;subst b1 a1;exact⟨e,a2,b2⟩
    .rintro⟨rfl,a,b⟩;exact⟨[],[],rfl,(i0 _ _).2 ⟨rfl,a⟩,(i1 _ _).2 ⟨rfl,b⟩⟩
  .exact RC (by simp only;omega) w t
def meC{x:J}(h:bY x=true)(w:Wd)(t:Int):cM x w t↔w=[]/\cv t x=true:=Yi _ x (b6g _) h w t
def uf(t n:Int)(p:J):cv t (J.mk 5 n [p]) = !cv t p:=by rw[sY];simp[Jy,xm]
def xp(t n:Int)(p q:J):cv t (J.mk 6 n [p,q])=(cv t p||cv t q):=by rw[sY];simp[Jy,xm]
def xq(t n:Int)(p q:J):cv t (J.mk 7 n [p,q])=(cv t p&&cv t q):=by rw[sY];simp[Jy,xm]
def xn(t:Int):cv t (J.mk (1:Int) (0:Int) [])=false:=by rw[sY];simp[Jy]
def xo(t:Int):cv t (J.mk (2:Int) (0:Int) [])=true:=by rw[sY];simp[Jy]
def a5m(n:Int)(p:J)(w:Wd)(t:Int):cM (J.mk (5:Int) n [p]) w t↔w=[]/\cv t p=false:=by
 rw[RC (by simp),uf,b6j]
def a3Z(A B C:Wd->Int->Prop)(w:Wd)(t:Int):jq (λ w t=>A w t\/B w t) C w t↔jq A C w t\/jq B C w t:=by
 constructor
 .rintro⟨u,v,e,a|a,b⟩
  .exact .inl ⟨u,v,e,a,b⟩
  .exact .inr ⟨u,v,e,a,b⟩
 .rintro (⟨u,v,e,a,b⟩|⟨u,v,e,a,b⟩)
  .exact⟨u,v,e, .inl a,b⟩
  .exact⟨u,v,e, .inr a,b⟩
def a4a(A B C:Wd->Int->Prop)(w:Wd)(t:Int):jq A (λ w t=>B w t\/C w t) w t↔jq A B w t\/jq A C w t:=by
 constructor
 .rintro⟨u,v,e,a,b|b⟩
  .exact .inl ⟨u,v,e,a,b⟩
  .exact .inr ⟨u,v,e,a,b⟩
 .rintro (⟨u,v,e,a,b⟩|⟨u,v,e,a,b⟩)
  .exact⟨u,v,e,a, .inl b⟩
  .exact⟨u,v,e,a, .inr b⟩
def b2W(p q:Int->Prop)(w:Wd)(t:Int):jq (λ w t=>w=[]/\p t) (λ w t=>w=[]/\q t) w t↔w=[]/\(p t/\q t):=by
 constructor
 .rintro⟨u,v,e,⟨a1,a2⟩,b1,b2⟩;subst a1 b1;exact⟨e,a2,b2⟩
 .rintro⟨rfl,a,b⟩;exact⟨[],[],rfl,⟨rfl,a⟩,rfl,b⟩
def a8F(M:Wd->Int->Prop)(w:Wd)(t:Int):nH M w t↔w=[]\/jq M (nH M) w t:=by
 constructor
 .intro h;cases h with
  | nil t=>exact .inl rfl
  | cons a b=>exact .inr ⟨_,_,rfl,a,b⟩
 .rintro (rfl|⟨u,v,rfl,a,b⟩)
  .exact .nil t
  .exact .cons a b
def a6b(M:Wd->Int->Prop)(w:Wd)(t:Int):nH M w t↔w=[]\/jq (nH M) M w t:=by
 constructor
 .intro h;induction h with
  | nil t=>exact .inl rfl
  | @cons u v t a b ih =>
   rcases ih with rfl|⟨v1,v2,rfl,c,d⟩
   .exact .inr ⟨[],u,by simp, .nil _,a⟩
   .refine .inr ⟨u++v1,v2,by simp, .cons ?_ c,d⟩;rw[<-KF];exact a
 .rintro (rfl|⟨u,v,rfl,a,b⟩)
  .exact .nil t
  .exact a2q a (a2r b)
def b2S(P:J)(a b:J)(w:Wd)(t:Int):jq (cM (J.mk 6 0 [a,b])) (cM P) w t↔jq (cM a) (cM P) w t\/jq (cM b) (cM P) w t:=by
 rw[<-a3Z];exact ia (λ w t=>jT 0 a b w t) (λ _ _=>b7k) w t
def b2T(P:J)(a b:J)(w:Wd)(t:Int):jq (cM P) (cM (J.mk 6 0 [a,b])) w t↔jq (cM P) (cM a) w t\/jq (cM P) (cM b) w t:=by
 rw[<-a4a];exact ia (λ _ _=>b7k) (λ w t=>jT 0 a b w t) w t
def b2U(a b c:J)(w:Wd)(t:Int):jq (cM (J.mk 7 0 [a,b])) (cM c) w t↔jq (jq (cM a) (cM b)) (cM c) w t:=ia (λ w t=>iF 0 a b w t) (λ _ _=>b7k) w t
def b2V(a b c:J)(w:Wd)(t:Int):jq (cM a) (cM (J.mk 7 0 [b,c])) w t↔jq (cM a) (jq (cM b) (cM c)) w t:=ia (λ _ _=>b7k) (λ w t=>iF 0 b c w t) w t
structure c8(x:J)(p:Int->Bool):Prop where
 e:∀ w t,cM x w t↔w=[]/\p t=true
def c8.of{x:J}(h:bY x=true):c8 x (λ t=>cv t x):=⟨λ w t=>meC h w t⟩
def c8.s5{x:J}(h:bY x=true):c8 (J.mk 5 0 [x]) (λ t => !cv t x):=⟨λ w t=>by rw[a5m];simp⟩
def c8.s6{x y:J}{p q:Int->Bool}(h:c8 x p)(k:c8 y q):c8 (J.mk 6 0 [x,y]) (λ t=>p t||q t):=⟨λ w t=>by
 rw[jT,h.e,k.e,b7d];exact⟨λ z=>z.elim (λ z=>⟨z.1, .inl z.2⟩) λ z=>⟨z.1, .inr z.2⟩,λ z=>z.2.elim (λ y => .inl ⟨z.1,y⟩) λ y => .inr ⟨z.1,y⟩⟩⟩
def c8.s7{x y:J}{p q:Int->Bool}(h:c8 x p)(k:c8 y q):c8 (J.mk 7 0 [x,y]) (λ t=>p t&&q t):=⟨λ w t=>by
 rw[iF,ia h.e k.e,b2W (λ t=>p t=true) (λ t=>q t=true),b5M]⟩
def c8.one:c8 (J.mk (2:Int) (0:Int) []) (λ _=>true):=⟨λ w t=>by rw[Cu];simp⟩
def c8.zero:c8 (J.mk (1:Int) (0:Int) []) (λ _=>false):=⟨λ w t=>by simp[nh]⟩
def c8.not{x:J}(q:Int->Bool)(hq:∀ t,cv t x=q t):c8 (J.mk 5 0 [x]) (λ t => !q t):=⟨λ w t=>by rw[a5m,hq];simp⟩
def c8.same{x y:J}{p q:Int->Bool}(h:c8 x p)(k:c8 y q)(e:∀ t,p t=q t):sW x y:=λ w t=>by rw[h.e,k.e,e]
def b0r(a0:J)(a1:J)(a2:J):sW (J.mk (6:Int) (0:Int) [a0,(J.mk (6:Int) (0:Int) [a1,a2])]) (J.mk (6:Int) (0:Int) [(J.mk (6:Int) (0:Int) [a0,a1]),a2]):=λ w t=>by rw[jT,jT,jT,jT];exact c0i.symm
def b0s(a0:J)(a1:J):sW (J.mk (6:Int) (0:Int) [a0,a1]) (J.mk (6:Int) (0:Int) [a1,a0]):=λ w t=>by rw[jT,jT];exact or_comm
def b0t(a0:J):sW (J.mk (6:Int) (0:Int) [a0,(J.mk (1:Int) (0:Int) [])]) a0:=λ w t=>by rw[jT];simp[nh]
def b0u(a0:J):sW (J.mk (6:Int) (0:Int) [a0,a0]) a0:=λ w t=>by rw[jT];exact or_self_iff
def b0v(a0:J)(a1:J)(a2:J):sW (J.mk (7:Int) (0:Int) [a0,(J.mk (7:Int) (0:Int) [a1,a2])]) (J.mk (7:Int) (0:Int) [(J.mk (7:Int) (0:Int) [a0,a1]),a2]):=λ w t=>by rw[iF,iF,b2U,b2V];exact (TO _ _ _ w t).symm
def b0w(a0:J):sW (J.mk (7:Int) (0:Int) [(J.mk (2:Int) (0:Int) []),a0]) a0:=λ w t=>by rw[iF];exact TP Cu w t
def b0x(a0:J):sW (J.mk (7:Int) (0:Int) [a0,(J.mk (2:Int) (0:Int) [])]) a0:=λ w t=>by rw[iF];exact TQ Cu w t
def b0y(a0:J)(a1:J)(a2:J):sW (J.mk (7:Int) (0:Int) [a0,(J.mk (6:Int) (0:Int) [a1,a2])]) (J.mk (6:Int) (0:Int) [(J.mk (7:Int) (0:Int) [a0,a1]),(J.mk (7:Int) (0:Int) [a0,a2])]):=λ w t=>by rw[iF,jT,iF,iF];exact b2T _ _ _ w t
def b0z(a0:J)(a1:J)(a2:J):sW (J.mk (7:Int) (0:Int) [(J.mk (6:Int) (0:Int) [a0,a1]),a2]) (J.mk (6:Int) (0:Int) [(J.mk (7:Int) (0:Int) [a0,a2]),(J.mk (7:Int) (0:Int) [a1,a2])]):=λ w t=>by rw[iF,jT,iF,iF];exact b2S _ _ _ w t
def a7l(a0:J):sW (J.mk (7:Int) (0:Int) [(J.mk (1:Int) (0:Int) []),a0]) (J.mk (1:Int) (0:Int) []):=λ w t=>by rw[iF];exact⟨λ z=>absurd z (Xh nh w t),λ z=>absurd z (nh w t)⟩
def a7m(a0:J):sW (J.mk (7:Int) (0:Int) [a0,(J.mk (1:Int) (0:Int) [])]) (J.mk (1:Int) (0:Int) []):=λ w t=>by rw[iF];exact⟨λ z=>absurd z (Xi nh w t),λ z=>absurd z (nh w t)⟩
def a7n(a0:J):sW (J.mk (6:Int) (0:Int) [(J.mk (2:Int) (0:Int) []),(J.mk (7:Int) (0:Int) [a0,(J.mk (8:Int) (0:Int) [a0])])]) (J.mk (8:Int) (0:Int) [a0]):=λ w t=>by rw[jT,Cu,iF,RD,a8F,ia (λ _ _=>b7k) (λ w t=>RD 0 a0 w t)]
def a7o(a0:J):sW (J.mk (6:Int) (0:Int) [(J.mk (2:Int) (0:Int) []),(J.mk (7:Int) (0:Int) [(J.mk (8:Int) (0:Int) [a0]),a0])]) (J.mk (8:Int) (0:Int) [a0]):=λ w t=>by rw[jT,Cu,iF,RD,a6b,ia (λ w t=>RD 0 a0 w t) (λ _ _=>b7k)]
def a7p(t0:J)(sb:bY t0=true):sW (J.mk (7:Int) (0:Int) [t0,t0]) t0:=c8.same (c8.s7 (c8.of sb) (c8.of sb)) (c8.of sb) λ t=>by cases cv t t0<;>rfl
def a7q(t0:J)(t1:J)(sb:bY t0=true)(KN:bY t1=true):sW (J.mk (7:Int) (0:Int) [t0,t1]) (J.mk (7:Int) (0:Int) [t1,t0]):=c8.same (c8.s7 (c8.of sb) (c8.of KN)) (c8.s7 (c8.of KN) (c8.of sb)) λ t=>by cases cv t t0<;>cases cv t t1<;>rfl
def a7r(t0:J)(sb:bY t0=true):sW (J.mk (6:Int) (0:Int) [t0,(J.mk (5:Int) (0:Int) [t0])]) (J.mk (2:Int) (0:Int) []):=c8.same (c8.s6 (c8.of sb) (c8.not (λ t=>cv t t0) (λ t=>by simp only[xn,xo,uf,xp,xq]))) c8.one λ t=>by cases cv t t0<;>rfl
def a7s(t0:J)(sb:bY t0=true):sW (J.mk (7:Int) (0:Int) [t0,(J.mk (5:Int) (0:Int) [t0])]) (J.mk (1:Int) (0:Int) []):=c8.same (c8.s7 (c8.of sb) (c8.not (λ t=>cv t t0) (λ t=>by simp only[xn,xo,uf,xp,xq]))) c8.zero λ t=>by cases cv t t0<;>rfl
def a7t(t0:J)(sb:bY t0=true):sW (J.mk (5:Int) (0:Int) [(J.mk (5:Int) (0:Int) [t0])]) t0:=c8.same (c8.not (λ t=>(!cv t t0)) (λ t=>by simp only[xn,xo,uf,xp,xq])) (c8.of sb) λ t=>by cases cv t t0<;>rfl
def a7u(t0:J)(t1:J)(sb:bY t0=true)(KN:bY t1=true):sW (J.mk (5:Int) (0:Int) [(J.mk (6:Int) (0:Int) [t0,t1])]) (J.mk (7:Int) (0:Int) [(J.mk (5:Int) (0:Int) [t0]),(J.mk (5:Int) (0:Int) [t1])]):=c8.same (c8.not (λ t=>(cv t t0||cv t t1)) (λ t=>by simp only[xn,xo,uf,xp,xq])) (c8.s7 (c8.not (λ t=>cv t t0) (λ t=>by simp only[xn,xo,uf,xp,xq])) (c8.not (λ t=>cv t t1) (λ t=>by simp only[xn,xo,uf,xp,xq]))) λ t=>by cases cv t t0<;>cases cv t t1<;>rfl
def a7v(t0:J)(t1:J)(sb:bY t0=true)(KN:bY t1=true):sW (J.mk (5:Int) (0:Int) [(J.mk (7:Int) (0:Int) [t0,t1])]) (J.mk (6:Int) (0:Int) [(J.mk (5:Int) (0:Int) [t0]),(J.mk (5:Int) (0:Int) [t1])]):=c8.same (c8.not (λ t=>(cv t t0&&cv t t1)) (λ t=>by simp only[xn,xo,uf,xp,xq])) (c8.s6 (c8.not (λ t=>cv t t0) (λ t=>by simp only[xn,xo,uf,xp,xq])) (c8.not (λ t=>cv t t1) (λ t=>by simp only[xn,xo,uf,xp,xq]))) λ t=>by cases cv t t0<;>cases cv t t1<;>rfl
def a7w:sW (J.mk (5:Int) (0:Int) [(J.mk (1:Int) (0:Int) [])]) (J.mk (2:Int) (0:Int) []):=c8.same (c8.not (λ t=>false) (λ t=>by simp only[xn,xo,uf,xp,xq])) c8.one λ t=>by rfl
def a7x:sW (J.mk (5:Int) (0:Int) [(J.mk (2:Int) (0:Int) [])]) (J.mk (1:Int) (0:Int) []):=c8.same (c8.not (λ t=>true) (λ t=>by simp only[xn,xo,uf,xp,xq])) c8.zero λ t=>by rfl
def a7y(t0:J)(sb:bY t0=true):sW (J.mk (6:Int) (0:Int) [t0,(J.mk (2:Int) (0:Int) [])]) (J.mk (2:Int) (0:Int) []):=c8.same (c8.s6 (c8.of sb) c8.one) c8.one λ t=>by cases cv t t0<;>rfl
def a7z(t0:J)(t1:J)(t2:J)(sb:bY t0=true)(KN:bY t1=true)(XT:bY t2=true):sW (J.mk (7:Int) (0:Int) [(J.mk (6:Int) (0:Int) [t0,t1]),(J.mk (6:Int) (0:Int) [t0,t2])]) (J.mk (6:Int) (0:Int) [t0,(J.mk (7:Int) (0:Int) [t1,t2])]):=c8.same (c8.s7 (c8.s6 (c8.of sb) (c8.of KN)) (c8.s6 (c8.of sb) (c8.of XT))) (c8.s6 (c8.of sb) (c8.s7 (c8.of KN) (c8.of XT))) λ t=>by cases cv t t0<;>cases cv t t1<;>cases cv t t2<;>rfl
def Sh:Nat->J->J
 | 0,x=>x
 | m+1,x=>Sh m (J.mk 8 0 [x])
def Si:∀ (m:Nat) (x:J),Sh (m+1) x=J.mk 8 0 [Sh m x]
 | 0,x=>rfl
 | m+1,x=>Si m (J.mk 8 0 [x])
def YV{x y:J}(hx:¬ x.aj=8)(hy:¬ y.aj=8):∀ (m n:Nat),Sh m x=Sh n y->x=y/\m=n
 | 0,0,h=>⟨h,rfl⟩
 | 0,n+1,h=>by rw[Si] at h;exact absurd (by rw[show x=_ from h]) hx
 | m+1,0,h=>by rw[Si] at h;exact absurd (by rw[show y=_ from h.symm]) hy
 | m+1,n+1,h=>by
  rw[Si,Si] at h;simp only[J.mk.injEq,b5J,b5W,b6t] at h;obtain⟨h1,h2⟩:=YV hx hy m n h;exact⟨h1,by rw[h2]⟩
def NS(r:List UInt8):Prop:=∀ b t,r=b::t->¬ b=42
def NS.of{b:UInt8}{t:List UInt8}(h:¬ b=42):NS (b::t):=λ c u e=>by cases e;exact h
def NS.nil:NS []:=λ _ _ e=>nomatch e
def YH:∀ (m n:Nat) {r s:List UInt8},NS r->NS s->List.replicate m (42:UInt8)++r=List.replicate n 42++s->m=n/\r=s
 | 0,0,r,s,_,_,h=>⟨rfl,h⟩
 | 0,n+1,r,s,hr,_,h=>absurd rfl (hr 42 (List.replicate n 42++s) (by simpa [List.replicate_succ] using h))
 | m+1,0,r,s,_,hs,h=>absurd rfl (hs 42 (List.replicate m 42++r) (by simpa [List.replicate_succ] using h.symm))
 | m+1,n+1,r,s,hr,hs,h=>by
  obtain⟨h1,h2⟩:=YH m n hr hs (by simpa [List.replicate_succ] using h);exact⟨by rw[h1],h2⟩
def gF(x:J)(h:aF x=true)(h3:¬ x.aj=3)(h4:¬ x.aj=4):x.aT=0:=by
 simp only[aF] at h;rw[eH,jg] at h;simp only[Bool.and_eq_true,decide_eq_true_eq] at h;have:=h.1.1.2;rw[zD,if_neg h3,if_neg h4] at this;simpa using this
def QO(x:J)(h:aF x=true)(h5:x.aj=5):¬ (x.U.getD 0 zE).aj=8:=by
 simp only[aF] at h;rw[eH,jg] at h;simp only[Bool.and_eq_true,decide_eq_true_eq] at h;have:bj (x.U.getD 0 zE)=true:=by simpa [h5] using h.1.2
 rw[oi] at this;intro e;rw[e] at this;simp[tg] at this
def jy(x:J)(h:aF x=true)(e:x.aj=1\/x.aj=2\/x.aj=3\/x.aj=4):x.U=[]:=by
 simp only[aF] at h;rw[eH,jg] at h;simp only[b5M,b5K] at h;have h1:=h.1.1.1;apply b6S;rcases e with e|e|e|e<;>rw[e] at h1<;>simp[cm] at h1<;>omega
def a4p(x:J)(h:x.U.length=1):x=J.mk x.aj x.aT [(x.U.getD 0 zE)]:=by
 obtain⟨k,n,ks⟩:=x;match ks,h with
 | [a],_=>rfl
def a1A(x:J)(h:x.U.length=2):x=J.mk x.aj x.aT [(x.U.getD 0 zE),(x.U.getD 1 zE)]:=by
 obtain⟨k,n,ks⟩:=x;match ks,h with
 | [a,b],_=>rfl
def NV(x:J)(h:x.U=[]):x=J.mk x.aj x.aT []:=by
 obtain⟨k,n,ks⟩:=x;cases h;rfl
def fbE(k:Int):UInt8:=if k=1 then 48 else if k=2 then 49 else if k=3 then 116 else if k=4 then 97 else if k=5 then 126 else 40
def a0W(x:J)(h:aF x=true)(h8:¬ x.aj=8):∃ t,aX x=fbE x.aj::t:=by
 rcases fF x h with e|e|e|e|e|e|e|e
 .exact⟨_,by rw[(cu x h).1 e,e];rfl⟩
 .exact⟨_,by rw[(cu x h).2.1 e,e];rfl⟩
 .exact⟨_,by rw[(a6s x h e).2.2.2,e];rfl⟩
 .exact⟨_,by rw[(a6t x h e).2.2.2,e];rfl⟩
 .exact⟨_,by rw[(a6u x h e).2.2,e];rfl⟩
 .exact⟨_,by rw[(Y9 x h e).2.2.2,e];rfl⟩
 .exact⟨_,by rw[(Za x h e).2.2.2,e];rfl⟩
 .exact absurd e h8
def a0V(x:J)(h:aF x=true)(e:x.aj=8):aF (x.U.getD 0 zE)=true/\bG (x.U.getD 0 zE)<bG x/\x=J.mk 8 0 [(x.U.getD 0 zE)]/\aX x=aX (x.U.getD 0 zE)++[42]:=by
 have b:=jf x h (.inr e);have g:=b4D x h (by omega) (by omega) (by omega) (by omega) (by omega) (by omega) (by omega);have hx:=a4p x b.len;rw[gF x h (by omega) (by omega),e] at hx;exact⟨b.g0,b.l0,hx,by rw[g.2.2]⟩
def Nz:∀ (N:Nat) (x:J),bG x<N->aF x=true->∃ b t,aX x=b::t/\¬ b=42/\¬ b=43
 | 0,x,h,_=>by omega
 | N+1,x,hN,h=>by
  by_cases h8:x.aj=8
  .obtain⟨g,l,_,e⟩:=a0V x h h8;obtain⟨b,t,h1,h2⟩:=Nz N (x.U.getD 0 zE) (by omega) g;exact⟨b,t++[42],by rw[e,h1];rfl,h2⟩
  .obtain⟨t,e⟩:=a0W x h h8;refine⟨_,t,e,?_⟩;unfold fbE;repeat' split
   all_goals decide
def a4h:∀ a b:Fin 10,iA (a.val:Int)=iA (b.val:Int)->a=b:=by decide +kernel
def a1u{a b:Int}(ha:0<=a/\a<=9)(hb:0<=b/\b<=9)(h:iA a=iA b):a=b:=by
 have:=a4h ⟨a.toNat,by omega⟩ ⟨b.toNat,by omega⟩ (by rw[show ((a.toNat:Nat):Int)=a by omega,show ((b.toNat:Nat):Int)=b by omega];exact h);simp only[Fin.mk.injEq] at this;omega
def rI:∀ (N:Nat) (x y:J),bG x+bG y<N->aF x=true->aF y=true->∀ (m n:Nat) (r s:List UInt8),NS r->NS s ->
  aX x++(List.replicate m (42:UInt8)++r)=aX y++(List.replicate n 42++s)->Sh m x=Sh n y/\r=s
 | 0,x,y,h,_,_=>by omega
 | N+1,x,y,hN,hx,hy=>by
  intro m n r s hr hs h;by_cases h8:x.aj=8
  .obtain⟨g,l,e1,e2⟩:=a0V x hx h8;have ih:=rI N (x.U.getD 0 zE) y (by omega) g hy (m+1) n r s hr hs (by rw[<-h,e2];simp[b7p]);refine⟨?_,ih.2⟩;rw[<-ih.1];show Sh m x=Sh m (J.mk 8 0 [(x.U.getD 0 zE)]);rw[<-e1]
  by_cases VH:y.aj=8
  .obtain⟨g,l,e1,e2⟩:=a0V y hy VH;have ih:=rI N x (y.U.getD 0 zE) (by omega) hx g m (n+1) r s hr hs (by rw[h,e2];simp[b7p]);refine⟨?_,ih.2⟩;rw[ih.1];show Sh n (J.mk 8 0 [y.U.getD 0 zE])=Sh n y;rw[<-e1]
  suffices q:x=y/\List.replicate m (42:UInt8)++r=List.replicate n 42++s by
   obtain⟨q1,q2⟩:=q;obtain⟨q3,q4⟩:=YH m n hr hs q2;exact⟨by rw[q1,q3],q4⟩
  obtain⟨t1,e1⟩:=a0W x hx h8;obtain⟨t2,e2⟩:=a0W y hy VH;have hb:fbE x.aj=fbE y.aj:=by
   have:=h;rw[e1,e2] at this;simp only[b6x,b5J] at this;exact this.1
  clear e1 e2 t1 t2;have n32:∀ t:List UInt8,NS (32::t):=λ t=>NS.of (by decide);have n41:∀ t:List UInt8,NS (41::t):=λ t=>NS.of (by decide);rcases fF x hx with e|e|e|e|e|e|e|e
  .rcases fF y hy with f|f|f|f|f|f|f|f
   .rw[(cu x hx).1 e,(cu y hy).1 f] at h;refine⟨?_,by simpa using h⟩;rw[NV x (jy x hx (by omega)),NV y (jy y hy (by omega)),gF x hx (by omega) (by omega),gF y hy (by omega) (by omega),e,f]
   all_goals first|exact absurd f VH|(rw[e,f] at hb;exact absurd hb (by decide))
  .rcases fF y hy with f|f|f|f|f|f|f|f
   .rw[e,f] at hb;exact absurd hb (by decide)
   .rw[(cu x hx).2.1 e,(cu y hy).2.1 f] at h;refine⟨?_,by simpa using h⟩;rw[NV x (jy x hx (by omega)),NV y (jy y hy (by omega)),gF x hx (by omega) (by omega),gF y hy (by omega) (by omega),e,f]
   all_goals first|exact absurd f VH|(rw[e,f] at hb;exact absurd hb (by decide))
  .rcases fF y hy with f|f|f|f|f|f|f|f
   .rw[e,f] at hb;exact absurd hb (by decide)
   .rw[e,f] at hb;exact absurd hb (by decide)
   .obtain⟨a1,a2,a3,a4⟩:=a6s x hx e;obtain⟨b1,b2,b3,b4⟩:=a6s y hy f;rw[a4,b4] at h;simp only[b6x,b6B,b5J,b6t] at h;obtain⟨d1,d2⟩:=List.append_inj h (by rw[a3,b3]);refine⟨?_,d2⟩;rw[NV x (jy x hx (by omega)),NV y (jy y hy (by omega)),a1u ⟨a1,a2⟩ ⟨b1,b2⟩ d1,e,f]
   all_goals first|exact absurd f VH|(rw[e,f] at hb;exact absurd hb (by decide))
  .rcases fF y hy with f|f|f|f|f|f|f|f
   .rw[e,f] at hb;exact absurd hb (by decide)
   .rw[e,f] at hb;exact absurd hb (by decide)
   .rw[e,f] at hb;exact absurd hb (by decide)
   .obtain⟨a1,a2,a3,a4⟩:=a6t x hx e;obtain⟨b1,b2,b3,b4⟩:=a6t y hy f;rw[a4,b4] at h;simp only[b6x,b6B,b5J,b6t] at h;obtain⟨d1,d2⟩:=List.append_inj h (by rw[a3,b3]);refine⟨?_,d2⟩;rw[NV x (jy x hx (by omega)),NV y (jy y hy (by omega)),a1u ⟨a1,a2⟩ ⟨b1,b2⟩ d1,e,f]
   all_goals first|exact absurd f VH|(rw[e,f] at hb;exact absurd hb (by decide))
  .have f:y.aj=5:=by
    rcases fF y hy with f|f|f|f|f|f|f|f;all_goals first|exact f|exact absurd f VH|(rw[e,f] at hb;exact absurd hb (by decide))
   have bx:=jf x hx (.inl e);have DR:=jf y hy (.inl f);rw[(a6u x hx e).2.2,(a6u y hy f).2.2] at h;simp only[b6x,b6B,b5J,b6t] at h;obtain⟨i1,i2⟩:=rI N (x.U.getD 0 zE) (y.U.getD 0 zE) (by have:=bx.l0;have:=DR.l0;omega) bx.g0 DR.g0 m n r s hr hs h;obtain⟨j1,j2⟩:=YV (QO x hx e) (QO y hy f) m n i1;refine⟨?_,by rw[j2,i2]⟩;rw[a4p x bx.len,a4p y DR.len,gF x hx (by omega) (by omega),gF y hy (by omega) (by omega),e,f,j1]
  .have f:y.aj=6\/y.aj=7:=by
    rcases fF y hy with f|f|f|f|f|f|f|f;all_goals first|exact .inl f|exact .inr f|exact absurd f VH|(rw[e,f] at hb;exact absurd hb (by decide))
   have bx:=cH x hx (.inl e);have DR:=cH y hy f;have XM:bG (x.U.getD 0 zE)+bG (y.U.getD 0 zE)<N:=by have:=bx.l0;have:=DR.l0;omega
   have ON:bG (x.U.getD 1 zE)+bG (y.U.getD 1 zE)<N:=by have:=bx.l1;have:=DR.l1;omega
   rcases f with f|f
   .rw[(Y9 x hx e).2.2.2,(Y9 y hy f).2.2.2] at h;simp only[b6x,b6B,b5J,b6t,b6v] at h;obtain⟨i1,i2⟩:=rI N _ _ XM bx.g0 DR.g0 0 0 _ _ (n32 _) (n32 _) h;simp only[b5J,b6t] at i2;obtain⟨j1,j2⟩:=rI N _ _ ON bx.g1 DR.g1 0 0 _ _ (n41 _) (n41 _) i2;simp only[b5J,b6t] at j2;refine⟨?_,j2⟩;rw[a1A x bx.len,a1A y DR.len,gF x hx (by omega) (by omega),gF y hy (by omega) (by omega),e,f];rw[show (x.U.getD 0 zE)=_ from i1,show (x.U.getD 1 zE)=_ from j1];rfl
   .rw[(Y9 x hx e).2.2.2,(Za y hy f).2.2.2] at h;simp only[b6x,b6B,b5J,b6t,b6v] at h;obtain⟨i1,i2⟩:=rI N _ _ XM bx.g0 DR.g0 0 0 _ _ (n32 _) (n32 _) h;obtain⟨b,t,q1,q2,q3⟩:=Nz _ _ (b6g _) DR.g1;rw[q1] at i2;simp only[b6x,b5J,b6t] at i2;exact absurd i2.1.symm q3
  .have f:y.aj=6\/y.aj=7:=by
    rcases fF y hy with f|f|f|f|f|f|f|f;all_goals first|exact .inl f|exact .inr f|exact absurd f VH|(rw[e,f] at hb;exact absurd hb (by decide))
   have bx:=cH x hx (.inr e);have DR:=cH y hy f;have XM:bG (x.U.getD 0 zE)+bG (y.U.getD 0 zE)<N:=by have:=bx.l0;have:=DR.l0;omega
   have ON:bG (x.U.getD 1 zE)+bG (y.U.getD 1 zE)<N:=by have:=bx.l1;have:=DR.l1;omega
   rcases f with f|f
   .rw[(Za x hx e).2.2.2,(Y9 y hy f).2.2.2] at h;simp only[b6x,b6B,b5J,b6t,b6v] at h;obtain⟨i1,i2⟩:=rI N _ _ XM bx.g0 DR.g0 0 0 _ _ (n32 _) (n32 _) h;obtain⟨b,t,q1,q2,q3⟩:=Nz _ _ (b6g _) bx.g1;rw[q1] at i2;simp only[b6x,b5J,b6t] at i2;exact absurd i2.1 q3
   .rw[(Za x hx e).2.2.2,(Za y hy f).2.2.2] at h;simp only[b6x,b6B,b5J,b6t,b6v] at h;obtain⟨i1,i2⟩:=rI N _ _ XM bx.g0 DR.g0 0 0 _ _ (n32 _) (n32 _) h;simp only[b5J,b6t] at i2;obtain⟨j1,j2⟩:=rI N _ _ ON bx.g1 DR.g1 0 0 _ _ (n41 _) (n41 _) i2;simp only[b5J,b6t] at j2;refine⟨?_,j2⟩;rw[a1A x bx.len,a1A y DR.len,gF x hx (by omega) (by omega),gF y hy (by omega) (by omega),e,f];rw[show (x.U.getD 0 zE)=_ from i1,show (x.U.getD 1 zE)=_ from j1];rfl
  .exact absurd e h8
def Sz{x y:J}(hx:aF x=true)(hy:aF y=true)(h:aX x=aX y):x=y :=
 (rI _ x y (Nat.lt_succ_self _) hx hy 0 0 [] [] NS.nil NS.nil (by simpa using h)).1
def Xw(x:J)(fs:List (List J->List J))(out:List J):List J :=
 if x.aj=1 then out else if x.aj=6 then fs.getD 1 id (fs.getD 0 id out) else out++[x]
def Ax(x:J)(out:List J):List J:=y9 Xw x out
def ZN(x:J)(out:List J):Ax x out=Xw x (iR Xw x.U) out:=congrFun (kp _ x) out
def a4w(x:J)(out:List J)(h:x.aj=1):Ax x out=out:=by rw[ZN];simp[Xw,h]
def a4x(x:J)(out:List J)(h:x.aj=6)(b:B2 x):Ax x out=Ax (x.U.getD 1 zE) (Ax (x.U.getD 0 zE) out):=by
 rw[ZN];simp only[Xw,h];rw[eL Xw id zE x.U 0 (by have:=b.len;omega),eL Xw id zE x.U 1 (by have:=b.len;omega)];rfl
def a4y(x:J)(out:List J)(h1:¬ x.aj=1)(h6:¬ x.aj=6):Ax x out=out++[x]:=by
 rw[ZN,Xw,b5I h1,b5I h6]
def QH:∀ (N:Nat) (x:J),bG x<N->aF x=true->∀ out,nR out->nR (Ax x out)/\iO (Ax x out)<=iO out+au x+1
 | 0,x,h,_=>by omega
 | N+1,x,hN,h=>by
  intro out ho;by_cases h1:x.aj=1
  .rw[a4w x out h1];exact⟨ho,by omega⟩
  by_cases h6:x.aj=6
  .have b:=cH x h (.inl h6);rw[a4x x out h6 b];obtain⟨a1,a2⟩:=QH N (x.U.getD 0 zE) (by have:=b.l0;omega) b.g0 out ho;obtain⟨c1,c2⟩:=QH N (x.U.getD 1 zE) (by have:=b.l1;omega) b.g1 _ a1;exact⟨c1,by have:=b.nd;omega⟩
  rw[a4y x out h1 h6];refine⟨λ y hy=>?_,?_⟩
  .rcases b5F.1 hy with q|q
   .exact ho y q
   .rw[b5Z] at q;rw[q];exact h
  .simp only[iO,Ly,dy,b5Y,b5S,b6d];omega
noncomputable def Ka(out:List J)(x:J):List J:=if out.any (λ y=>ke y x)=true then out else out++[x]
def WG:∀ (N:Nat) (x:J),bG x<N->aF x=true->∀ ys out,kI x (ys.foldl Ka out)=(Ax x ys).foldl Ka out
 | 0,x,h,_=>by omega
 | N+1,x,hN,h=>by
  intro ys out;by_cases h1:x.aj=1
  .rw[a5Q x _ h1,a4w x _ h1]
  by_cases h6:x.aj=6
  .have b:=cH x h (.inl h6);rw[a5R x _ h6 b,a4x x _ h6 b,WG N (x.U.getD 0 zE) (by have:=b.l0;omega) b.g0,WG N (x.U.getD 1 zE) (by have:=b.l1;omega) b.g1]
  rw[a4y x _ h1 h6,b8t];show _=Ka _ x;rcases b6h ((ys.foldl Ka out).any (λ y=>ke y x)) with e|e
  .rw[a5T x _ h1 h6 e,Ka,b5Q e]
  .rw[a5S x _ h1 h6 e,Ka,b5I (by rw[e];decide)]
noncomputable def xD(L:List J)(k:Nat):List J:=(L.take k).foldl Ka []
def Qw(L:List J)(k:Nat)(x:J)(h:L[k]?=some x):xD L (k+1)=Ka (xD L k) x:=by
 rw[xD,b8N,h];simp only[Option.toList_some,b8t,b7C,b8Z];rfl
def a7E(x y:J)(hx:aF x=true)(hy:aF y=true)(k:Nat)(h:(Ax y (Ax x [])).length<=k):xD (Ax y (Ax x [])) k=kI y (kI x []):=by
 rw[xD,b6J h,<-WG _ y (b6g _) hy,<-WG _ x (b6g _) hx];rfl
def a7D(out:List J)(x:J)(hx:aF x=true)(ho:nR out):out.any (λ y=>ke y x)=true↔∃ z∈out,aX z=aX x:=by
 rw[b9z];constructor
 .rintro⟨z,h1,h2⟩;exact⟨z,h1,by rw[Av.1 h2]⟩
 .rintro⟨z,h1,h2⟩;exact⟨z,h1,Av.2 (Sz (ho z h1) hx h2)⟩
def EC(L:List J)(h:nR L):∀ k,nR (xD L k)
 | 0=>λ y hy=>by simp[xD] at hy
 | k+1=>by
  cases hk:L[k]? with
  | none =>
   have e:xD L (k+1)=xD L k:=by rw[xD,xD,b8N,hk];simp
   rw[e];exact EC L h k
  | some x =>
   rw[Qw L k x hk,Ka];split
   .exact EC L h k
   .intro y hy;rcases b5F.1 hy with q|q
    .exact EC L h k y q
    .rw[b5Z] at q;rw[q];exact h x (b6N hk)
def Vs(L:List J):∀ k,(xD L k).length<=k
 | 0=>by simp[xD]
 | k+1=>by
  have ih:=Vs L k;cases hk:L[k]? with
  | none =>
   have e:xD L (k+1)=xD L k:=by rw[xD,xD,b8N,hk];simp
   rw[e];omega
  | some x =>
   rw[Qw L k x hk,Ka];split
   .omega
   .simp;omega
def H8:∀ x:List UInt8,Op.bytesLess x x=false
 | []=>rfl
 | a::x=>by simp[Op.bytesLess,H8 x]
def Vh:∀ x y:List UInt8,Op.bytesLess x y=false->Op.bytesLess y x=false->x=y
 | [],[],_,_=>rfl
 | [],_::_,h,_=>by simp[Op.bytesLess] at h
 | _::_,[],_,h=>by simp[Op.bytesLess] at h
 | a::x,b::y,h,k=>by
  simp only[Op.bytesLess,b9U,b7U,b5L,b6Z] at h k;have e:a=b:=UInt8.le_antisymm (b9C.1 k.1) (b9C.1 h.1);subst e;rw[Vh x y (h.2.resolve_left λ q=>q rfl) (k.2.resolve_left λ q=>q rfl)]
def Gb:∀ x y z:List UInt8,Op.bytesLess x y=true->Op.bytesLess y z=true->Op.bytesLess x z=true
 | _,[],_,h,_=>by cases (by simpa [Op.bytesLess] using h:False)
 | _,_::_,[],_,h=>by cases (by simpa [Op.bytesLess] using h:False)
 | [],_::_,_::_,_,_=>rfl
 | a::x,b::y,c::z,h,k=>by
  simp only[Op.bytesLess,b7d,b5M,b5K,b7R] at h k ⊢;rcases h with h|⟨rfl,h⟩
  .rcases k with k|⟨rfl,k⟩
   .exact .inl (UInt8.lt_trans h k)
   .exact .inl h
  .rcases k with k|⟨rfl,k⟩
   .exact .inl k
   .exact .inr ⟨rfl,Gb x y z h k⟩
def Qh(x y z:List UInt8)(h:Op.bytesLess x y=false)(k:Op.bytesLess y z=false):Op.bytesLess x z=false:=by
 cases hxz:Op.bytesLess x z with
 | false=>rfl
 | true =>
  cases hzy:Op.bytesLess z y with
  | true=>rw[Gb x z y hxz hzy] at h;cases h
  | false =>
   have e:=Vh y z k hzy;subst e;rw[h] at hxz;cases hxz
def HS(xs:List J):Prop:=xs.Pairwise λ a b=>ltX b a=false
def MD(x:J):∀ ys,(mB x ys).Perm (x::ys)
 | [] => .refl _
 | y::ys=>by
  rw[mB];split
  .exact ((MD x ys).cons y).trans (.swap x y ys)
  .exact .refl _
def XZ(x:J):∀ ys,HS ys->HS (mB x ys)
 | [],_=>by simp[mB,HS]
 | y::ys,h=>by
  have ⟨h1,h2⟩:=b7u.1 h;rw[mB];split
  .rename_i hl;refine b7u.2 ⟨λ z hz=>?_,XZ x ys h2⟩;rcases b5X.1 ((MD x ys).mem_iff.1 hz) with rfl|q
   .cases hzy:ltX z y with
    | false=>rfl
    | true=>have:=Gb _ _ _ hl hzy;rw[H8] at this;cases this
   .exact h1 z q
  .rename_i hl;have hl:ltX y x=false:=by simpa using hl
   refine b7u.2 ⟨λ z hz=>?_,h⟩;rcases b5X.1 hz with rfl|q
   .exact hl
   .exact Qh _ _ _ (h1 z q) hl
def a2o:∀ (xs acc:List J),HS acc->HS (xs.foldl (λ out x=>mB x out) acc)/\(xs.foldl (λ out x=>mB x out) acc).Perm (xs++acc)
 | [],acc,h=>⟨h, .refl _⟩
 | x::xs,acc,h=>by
  obtain⟨h1,h2⟩:=a2o xs (mB x acc) (XZ x acc h);refine⟨h1,h2.trans ?_⟩;exact ((MD x acc).append_left xs).trans b9B
def Us:∀ xs ys:List J,xs.Perm ys->HS xs->HS ys->nR xs->xs=ys
 | [],ys,h,_,_,_=>(List.nil_perm.1 h).symm
 | x::xs,[],h,_,_,_=>absurd h.length_eq (by simp)
 | x::xs,y::ys,h,hx,hy,hg=>by
  obtain⟨x1,x2⟩:=b7u.1 hx;obtain⟨y1,y2⟩:=b7u.1 hy;have e:x=y:=by
   rcases b5X.1 (h.mem_iff.1 (b8e)) with q|q
   .exact q
   rcases b5X.1 (h.mem_iff.2 (b8e)) with p|p
   .exact p.symm
   .exact Sz (hg x (by simp)) (hg y (by simp[p])) (Vh _ _ (y1 x q) (x1 y p))
  subst e;rw[Us xs ys h.cons_inv x2 y2 λ z hz=>hg z (by simp[hz])]
def a5W(xs zs:List J)(hg:nR xs)(hp:zs.Perm xs)(ho:HS zs):zs=Sf xs:=by
 obtain⟨h1,h2⟩:=a2o xs [] (by simp[HS]);rw[b6K] at h2;exact Us zs _ (hp.trans h2.symm) ho h1 λ z hz=>hg z (hp.mem_iff.1 hz)
end
end Go.Proofs.YtlpndogmpcolnaaGreatDoor

namespace Go.Proofs
open Go.Shelf
def Tryz.Wb:Go.Shelf.Ren:=⟨λ|106=>111|213=>119|265=>134|n=>n,λ|9=>9|3=>3|n=>n,λ|n=>n⟩
def Tryz.a5a:Go.Proofs.Lays.n106 Tryz.prog Tryz.Wb:={
 mixed:=by kernel_rfl
 f106:=Tryz.func111.trans (congrArg some (by kernel_rfl))
 f213:=Tryz.func119.trans (congrArg some (by kernel_rfl))
 f265:=Tryz.func134.trans (congrArg some (by kernel_rfl))
 t3:=Tryz.underlying3
 a3:=Tryz.isAgg3
 z3:=Tryz.sizeOf3
 v3:=Tryz.zeroValue3
 t9:=Tryz.underlying9
 a9:=Tryz.isAgg9
 z9:=Tryz.sizeOf9
 v9:=Tryz.zeroValue9 }
open Go.RowKit in
def Tryz.strings_Compare(a b:ByteArray)(w:World) :
  Calls Tryz.prog 111 #[.string a, .string b] w λ e w'=>e = .returned (.int .i64 (Lib.compareBytes a.data.toList b.data.toList))/\w'=w:=Any.strings_Compare Tryz.a5a a b w
def Tryz.YR:Go.Shelf.Ren:=⟨λ|6=>109|15=>118|14=>117|28=>133|29=>121|20=>125|21=>126|22=>127|23=>128|24=>129|25=>130|26=>131|27=>132|46=>137|47=>138|48=>139|49=>140|50=>141|57=>142|n=>n,λ|22=>167|24=>171|25=>173|3=>3|39=>101|0=>0|53=>157|55=>63|4=>4|46=>189|45=>188|50=>193|5=>5|9=>9|66=>196|70=>200|76=>204|77=>59|n=>n,λ|n=>n⟩
def Tryz.a8E:Go.Proofs.SlLaysF0.n6 Tryz.prog Tryz.YR:={
 mixed:=by kernel_rfl
 f6:=⟨Tryz.f109.name,by decide,Tryz.func109.trans (congrArg some (by kernel_rfl))⟩
 f14:=⟨Tryz.f117.name,by decide,Tryz.func117.trans (congrArg some (by kernel_rfl))⟩
 f15:=Tryz.func118.trans (congrArg some (by kernel_rfl))
 f20:=⟨Tryz.f125.name,by decide,Tryz.func125.trans (congrArg some (by kernel_rfl))⟩
 f21:=⟨Tryz.f126.name,by decide,Tryz.func126.trans (congrArg some (by kernel_rfl))⟩
 f22:=⟨Tryz.f127.name,by decide,Tryz.func127.trans (congrArg some (by kernel_rfl))⟩
 f23:=⟨Tryz.f128.name,by decide,Tryz.func128.trans (congrArg some (by kernel_rfl))⟩
 f24:=⟨Tryz.f129.name,by decide,Tryz.func129.trans (congrArg some (by kernel_rfl))⟩
 f25:=⟨Tryz.f130.name,by decide,Tryz.func130.trans (congrArg some (by kernel_rfl))⟩
 f26:=⟨Tryz.f131.name,by decide,Tryz.func131.trans (congrArg some (by kernel_rfl))⟩
 f27:=⟨Tryz.f132.name,by decide,Tryz.func132.trans (congrArg some (by kernel_rfl))⟩
 f28:=Tryz.func133.trans (congrArg some (by kernel_rfl))
 f29:=Tryz.func121.trans (congrArg some (by kernel_rfl))
 f46:=⟨Tryz.f137.name,by decide,Tryz.func137.trans (congrArg some (by kernel_rfl))⟩
 f47:=Tryz.func138.trans (congrArg some (by kernel_rfl))
 f48:=Tryz.func139.trans (congrArg some (by kernel_rfl))
 f49:=⟨Tryz.f140.name,by decide,Tryz.func140.trans (congrArg some (by kernel_rfl))⟩
 f50:=⟨Tryz.f141.name,by decide,Tryz.func141.trans (congrArg some (by kernel_rfl))⟩
 f57:=⟨Tryz.f142.name,by decide,Tryz.func142.trans (congrArg some (by kernel_rfl))⟩
 t0:=Tryz.underlying0
 a0:=Tryz.isAgg0
 z0:=Tryz.sizeOf0
 v0:=Tryz.zeroValue0
 t3:=Tryz.underlying3
 a3:=Tryz.isAgg3
 z3:=Tryz.sizeOf3
 v3:=Tryz.zeroValue3
 t4:=Tryz.underlying4
 a4:=Tryz.isAgg4
 z4:=Tryz.sizeOf4
 v4:=Tryz.zeroValue4
 t5:=Tryz.underlying5
 a5:=Tryz.isAgg5
 z5:=Tryz.sizeOf5
 v5:=Tryz.zeroValue5
 t9:=Tryz.underlying9
 a9:=Tryz.isAgg9
 z9:=Tryz.sizeOf9
 v9:=Tryz.zeroValue9
 t22:=Tryz.underlying167
 a22:=Tryz.isAgg167
 z22:=Tryz.sizeOf167
 v22:=Tryz.zeroValue167
 t25:=Tryz.underlying173
 a25:=Tryz.isAgg173
 z25:=Tryz.sizeOf173
 v25:=Tryz.zeroValue173
 t39:=Tryz.underlying101
 a39:=Tryz.isAgg101
 z39:=Tryz.sizeOf101
 v39:=Tryz.zeroValue101
 t45:=Tryz.underlying188
 a45:=Tryz.isAgg188
 z45:=Tryz.sizeOf188
 v45:=Tryz.zeroValue188
 t46:=Tryz.underlying189
 a46:=Tryz.isAgg189
 z46:=Tryz.sizeOf189
 v46:=Tryz.zeroValue189
 t50:=Tryz.underlying193
 a50:=Tryz.isAgg193
 z50:=Tryz.sizeOf193
 v50:=Tryz.zeroValue193
 t53:=Tryz.underlying157
 a53:=Tryz.isAgg157
 z53:=Tryz.sizeOf157
 v53:=Tryz.zeroValue157
 t55:=Tryz.underlying63
 a55:=Tryz.isAgg63
 z55:=Tryz.sizeOf63
 v55:=Tryz.zeroValue63
 t66:=Tryz.underlying196
 a66:=Tryz.isAgg196
 z66:=Tryz.sizeOf196
 v66:=Tryz.zeroValue196
 t70:=Tryz.underlying200
 a70:=Tryz.isAgg200
 z70:=Tryz.sizeOf200
 v70:=Tryz.zeroValue200
 t76:=Tryz.underlying204
 a76:=Tryz.isAgg204
 z76:=Tryz.sizeOf204
 v76:=Tryz.zeroValue204
 t77:=Tryz.underlying59
 a77:=Tryz.isAgg59
 z77:=Tryz.sizeOf59
 v77:=Tryz.zeroValue59 }
end Go.Proofs

namespace Go.Proofs.YtlpndogmpcolnaaGreatDoor
noncomputable section
open Go.RowKit Go.Proofs
def yJ{P:Program}{w:World}{ops:Array Oper}{rest:List Oper}{o:Oper}{a:Act}{Q:Exit->Act->World->Prop}(hgd:o.guard=none)(s x:Operand)(t:TypeId)
  (ho:o.op = .call { callee := .builtin .append,args := #[s,x],argTypes := #[t,t] })
  (base:Nat) (e:TypeId) (i:TypeInfo) (z:Value) (size bytes:Nat) (ht:P.underlying t=some (.slice e)) (hi:P.info? e=some i) (hz:i.zero=some z)
  (E2:i.size=size) (hby:i.bytes=bytes) (Rb:z.cells.size=size) (cr:0<size)
  (v:Value) (n:Nat) (xs:List Value) (hs:a.eval s=v) (kV:w.ownsRow base e size v n xs)
  (ad:Addr) (m c:Nat) (news:List Value) (hx:a.eval x = .slice (some ad) m c) (hl:news.length=m * size) (IX:∀ j u,news[j]?=some u->w.cell? (ad.add j)=some u) (h1:∀ u∈news,u.oneCell'=true)
  (h63:n+m<=maxLen) (a7R:(n+m) * bytes<=140737488355328) (VL:base<=w.heap.size)
  (h:∀ v' w',w'.ownsRow base e size v' (n+m) (xs++news)->w.grownBy w' v.ownBlock->(v'.ownBlock=v.ownBlock\/v'.ownBlock=some w.heap.size)->(v' = .slice none 0 0↔v = .slice none 0 0/\m=0)->wpList P ops Q rest (a.put o.dst v') w'):wpList P ops Q (o::rest) a w :=
 wpList_plain hgd λ K hK=>by
  obtain⟨v',w',hr,h2,h3,h4,h5⟩:=run_append_own_at (P:=P) w base t o.type e i z size bytes ht hi hz E2 hby Rb cr v n xs kV ad m c news hl IX h1 h63 a7R VL;unfold Oper.wp execOp;simp only[ho,resolve,invoke,builtin,Sem.run_bind,Sem.run_pure,Result.andThen_ok,List.map_toArray,List.map_cons,List.map_nil,hs,hx,hr];exact hK _ _ (h v' w' h2 h3 h5 h4)
structure JH(w0:World)(S:Nat->Prop)(B:Nat)(w:World)(v:Value)(ys:List J)(L:List Value):Prop where
 er:Below w0.heap.size w0 w
 b0:w0.heap.size<=B
 bw:B<=w.heap.size
 own:w.ownsRow B 32 3 v ys.length L
 rd:dP w0 S (ys.map J.aL) L
structure yL(v v':Value)(w w':World):Prop where
 g:w.grownBy w' v.ownBlock
 own:∀ k,v'.ownBlock=some k->v.ownBlock=some k\/w.heap.size<=k
def yL.trans{v v' v'':Value}{w w' To:World}(h:yL v v' w w')(k:yL v' v'' w' To):yL v v'' w To:=by
 refine⟨⟨k.g.os.trans h.g.os,k.g.tape.trans h.g.tape,k.g.output.trans h.g.output,b7g h.g.size k.g.size,λ q h1 h2=>?_⟩,λ q hq=>?_⟩
 .rw[k.g.block q (b6a h1 h.g.size) λ e=>?_,h.g.block q h1 h2];rcases h.own q e.symm with r|r
  .exact h2 r.symm
  .omega
 .rcases k.own q hq with r|r
  .exact h.own q r
  .exact .inr (b7g h.g.size r)
def yL.alloc{v:Value}(w:World)(o:Obj):yL v v w (w.alloc o):=⟨⟨rfl,rfl,rfl,by simp,λ k h _=>b7H w o k h⟩,λ k h => .inl h⟩
def JH.alloc{w0:World}{S:Nat->Prop}{B:Nat}{w:World}{v:Value}{ys:List J}{L:List Value}(h:JH w0 S B w v ys L)(o:Obj):JH w0 S B (w.alloc o) v ys L :=
 ⟨h.er.alloc h.er.size o,h.b0,by have:=h.bw;simp;omega,h.own.alloc o,h.rd⟩
def JH.drew{w0:World}{S:Nat->Prop}{B:Nat}{w:World}{v:Value}{ys:List J}{L:List Value}(h:JH w0 S B w v ys L):JH w0 S B w.drew v ys L :=
 ⟨h.er.drew,h.b0,h.bw,h.own.drew,h.rd⟩
def yL.drew{v v':Value}{w w':World}(h:yL v v' w w'):yL v v' w w'.drew:=⟨⟨h.g.os,h.g.tape,h.g.output,h.g.size,h.g.block⟩,h.own⟩
abbrev FlC(w0:World)(S:Nat->Prop)(B:Nat)(x:J)(cs:List Value)(v:Value)(ys:List J)(w:World):Prop :=
 Calls prog 108 #[v, .agg cs.toArray] w λ e w'=>∃ v' L',e = .returned v'/\JH w0 S B w' v' (Ax x ys) L'/\yL v v' w w'
def Lg{w:World}{B e sz n:Nat}{v:Value}{L:List Value}(h:w.ownsRow B e sz v n L):∀ k,v.ownBlock=some k->B<=k/\k<w.heap.size:=λ k hk=>h.lt k hk
def yL.below{v v':Value}{w0 w w':World}{B e sz n:Nat}{L:List Value}(h:yL v v' w w')(hb:Below w0.heap.size w0 w)(h0:w0.heap.size<=B)(ho:w.ownsRow B e sz v n L):Below w0.heap.size w0 w' :=
 hb.trans ⟨h.g.os,h.g.tape,h.g.output,h.g.size,λ k hk=>h.g.block k (b6a hk hb.size) λ q=>by
  have:=(Lg ho k q.symm).1;omega⟩
set_option maxRecDepth 100000 in
def b3r(w0:World)(S:Nat->Prop)(B:Nat)(x:J)(h1:x.aj=1)(n:Int)(sl v:Value)(ys:List J)(L:List Value)(w:World)(hl:JH w0 S B w v ys L):FlC w0 S B x [.int .i64 1, .int .i64 n,sl] v ys w:=by
 go_enter Tryz.func108,Tryz.ntmps108;go_wp2;go_ret;rw[a4w x ys h1];exact⟨v,L,rfl,hl.alloc _,yL.alloc _ _⟩
set_option maxRecDepth 100000 in
def b3s(w0:World)(S:Nat->Prop)(B:Nat)(x:J)(h6:x.aj=6)(b2:B2 x)(n:Int)(kb ko cap:Nat)(c0 c1 c2 d0 d1 d2:Value)(v:Value)(ys:List J)(L:List Value)(w:World)(hl:JH w0 S B w v ys L)(hkb:kb<w0.heap.size)
  (sa:bP w0 kb ko [c0,c1,c2]) (IW:bP w0 kb (ko+3) [d0,d1,d2])
  (i0:∀ w',JH w0 S B w' v ys L->FlC w0 S B (x.U.getD 0 zE) [c0,c1,c2] v ys w')
  (i1:∀ w' v' L',JH w0 S B w' v' (Ax (x.U.getD 0 zE) ys) L'->FlC w0 S B (x.U.getD 1 zE) [d0,d1,d2] v' (Ax (x.U.getD 0 zE) ys) w') :
  FlC w0 S B x [.int .i64 6, .int .i64 n, .slice (some ⟨kb,ko,none⟩) 2 cap] v ys w:=by
 have l0:=hl.alloc (.cells #[.int .i64 6, .int .i64 n, .slice (some ⟨kb,ko,none⟩) 2 cap] 32);have f0:yL v v w (w.alloc (.cells #[.int .i64 6, .int .i64 n, .slice (some ⟨kb,ko,none⟩) 2 cap] 32)):=yL.alloc _ _;have e0:=b7L w (.cells #[.int .i64 6, .int .i64 n, .slice (some ⟨kb,ko,none⟩) 2 cap] 32);have vb:v.ownBlock≠some w.heap.size:=λ e=>by have:=(Lg hl.own _ e).2;omega
 go_enter Tryz.func108,Tryz.ntmps108;go_upto_region 1 with fail;generalize hb:w.heap.size=bx at *
 generalize w.alloc (.cells #[.int .i64 6, .int .i64 n, .slice (some ⟨kb,ko,none⟩) 2 cap] 32)=w1 at *
 have cl:=λ (W:World) (h:Below w0.heap.size w0 W)=>(⟨sa.keep (h.block kb hkb),IW.keep (h.block kb hkb)⟩:bP W kb ko [c0,c1,c2]/\bP W kb (ko+3) [d0,d1,d2]);have q0:w1.cell? ⟨kb,ko,none⟩=some c0:=(cl w1 l0.er).1 0 _ rfl;have q1:w1.cell? ⟨kb,ko+1,none⟩=some c1:=(cl w1 l0.er).1 1 _ rfl;have q2:w1.cell? ⟨kb,ko+2,none⟩=some c2:=(cl w1 l0.er).1 2 _ rfl;have r0:w1.cell? ⟨kb,ko+3,none⟩=some d0:=(cl w1 l0.er).2 0 _ rfl;have r1:w1.cell? ⟨kb,ko+4,none⟩=some d1:=(cl w1 l0.er).2 1 _ rfl;have r2:w1.cell? ⟨kb,ko+5,none⟩=some d2:=(cl w1 l0.er).2 2 _ rfl;obtain⟨⟨k0,k1,k2⟩,g0,g1,g2⟩:=DS e0;have Ca:=cN e0;have vb':some bx≠v.ownBlock:=λ e=>vb e.symm;go_wp2_with fail;go_region_held3 (λ w'=>w'.cell? ⟨bx,2,none⟩=some (.slice (some ⟨kb,ko,none⟩) 2 cap)/\w'.cell? ⟨kb,ko,none⟩=some c0/\w'.cell? ⟨kb,ko+1,none⟩=some c1/\w'.cell? ⟨kb,ko+2,none⟩=some c2/\w'.cell? ⟨kb,ko+3,none⟩=some d0/\w'.cell? ⟨kb,ko+4,none⟩=some d1/\w'.cell? ⟨kb,ko+5,none⟩=some d2) (go_keep)
  (first
   | (
     go_at_call_of 108 c0
     refine (i0 _ l0.drew).mono ?_
     rintro e w2 ⟨v1,L1,he,l1,f1⟩
     subst he
     have e2:w2.heap[bx]?=some (.cells #[.int .i64 6, .int .i64 n, .slice (some ⟨kb,ko,none⟩) 2 cap] 32 (0,0)):=(f1.g.block bx Ca vb').trans e0
     obtain⟨⟨k3,k4,k5⟩,g3,g4,g5⟩:=DS e2
     have p3:w2.cell? ⟨kb,ko,none⟩=some c0:=(cl w2 l1.er).1 0 _ rfl
     have p4:w2.cell? ⟨kb,ko+1,none⟩=some c1:=(cl w2 l1.er).1 1 _ rfl
     have p5:w2.cell? ⟨kb,ko+2,none⟩=some c2:=(cl w2 l1.er).1 2 _ rfl
     have r3:w2.cell? ⟨kb,ko+3,none⟩=some d0:=(cl w2 l1.er).2 0 _ rfl
     have r4:w2.cell? ⟨kb,ko+4,none⟩=some d1:=(cl w2 l1.er).2 1 _ rfl
     have r5:w2.cell? ⟨kb,ko+5,none⟩=some d2:=(cl w2 l1.er).2 2 _ rfl)
   | (
     go_at_call_of 108 d0
     refine (i1 _ _ _ l1).mono ?_
     rintro e w3 ⟨v2,L2,he,l2,f2⟩
     subst he
     have e3:w3.heap[bx]?=some (.cells #[.int .i64 6, .int .i64 n, .slice (some ⟨kb,ko,none⟩) 2 cap] 32 (0,0)):=(f2.g.block bx (cN e2) (λ e=>(f1.own bx e.symm).elim (λ q=>vb q) λ q=>by have q:w1.heap.size<=bx:=q;omega)).trans e2
     obtain⟨⟨k6,k7,k8⟩,g6,g7,g8⟩:=DS e3
     have p6:w3.cell? ⟨kb,ko,none⟩=some c0:=(cl w3 l2.er).1 0 _ rfl
     have p7:w3.cell? ⟨kb,ko+1,none⟩=some c1:=(cl w3 l2.er).1 1 _ rfl
     have p8:w3.cell? ⟨kb,ko+2,none⟩=some c2:=(cl w3 l2.er).1 2 _ rfl
     have r6:w3.cell? ⟨kb,ko+3,none⟩=some d0:=(cl w3 l2.er).2 0 _ rfl
     have r7:w3.cell? ⟨kb,ko+4,none⟩=some d1:=(cl w3 l2.er).2 1 _ rfl
     have r8:w3.cell? ⟨kb,ko+5,none⟩=some d2:=(cl w3 l2.er).2 2 _ rfl))
 all_goals
  go_wp2
  go_ret
  rw[a4x x ys h6 b2]
  exact⟨v2,L2,rfl,l2,f0.trans ((yL.trans (show yL v v w1 w1.drew from ⟨⟨rfl,rfl,rfl,b6k _,λ _ _ _=>rfl⟩,λ k h => .inl h⟩) f1).trans f2)⟩
set_option maxRecDepth 100000 in
def b3t(w0:World)(S:Nat->Prop)(B:Nat)(x:J)(n1:¬ x.aj=1)(n6:¬ x.aj=6)(cs:List Value)(v:Value)(ys:List J)(L:List Value)(w:World)(hl:JH w0 S B w v ys L)(hr:Rd w0 S x.aL cs)(hn:ys.length<=8000) :
  FlC w0 S B x cs v ys w:=by
 obtain⟨a,cap,rfl,_⟩:=Bi hr;have kb1:(x.aj == 1)=false:=by simpa using n1
 have kb6:(x.aj == 6)=false:=by simpa using n6
 have l0:=(hl.alloc (.cells #[.int .i64 x.aj, .int .i64 x.aT, .slice a x.U.length cap] 32)).alloc (.cells #[.int .i64 x.aj, .int .i64 x.aT, .slice a x.U.length cap] 32);have f0:yL v v w ((w.alloc (.cells #[.int .i64 x.aj, .int .i64 x.aT, .slice a x.U.length cap] 32)).alloc (.cells #[.int .i64 x.aj, .int .i64 x.aT, .slice a x.U.length cap] 32)):=(yL.alloc _ _).trans (yL.alloc _ _);obtain⟨i0,hi0,hz0,hz1,hz2⟩:=info_parts a8b;go_enter Tryz.func108,Tryz.ntmps108;go_wp2_with (at_builtin;refine yJ rfl _ _ 30 rfl B 32 i0 _ 3 40 Tryz.underlying30 hi0 hz0 hz1 hz2 rfl (by decide) v ys.length L rfl l0.own ⟨w.heap.size+1,0,none⟩ 1 1 [.int .i64 x.aj, .int .i64 x.aT, .slice a x.U.length cap] (by first|rfl|simp) (by rfl) (World.news_of_block (cs := #[.int .i64 x.aj, .int .i64 x.aT, .slice a x.U.length cap]) (t:=32) (fr:=(0,0)) (by simpa using heap_alloc_new (w.alloc _) (.cells #[.int .i64 x.aj, .int .i64 x.aT, .slice a x.U.length cap] 32))) (by simp[Value.oneCell']) (by simp[maxLen];omega) (by omega) l0.bw ?_);intro v' w' kV tL hat p9;go_wp2;go_ret;rw[a4y x ys n1 n6];have fr:yL v v' _ w':=⟨tL,λ k hk=>by
  rcases hat with e|e
  .exact .inl (by rw[<-e];exact hk)
  .rw[e] at hk;cases hk;exact .inr (by simp)⟩
 refine⟨v',_,rfl,⟨fr.below l0.er l0.b0 l0.own,l0.b0,Nat.le_trans l0.bw tL.size,by simpa using kV,?_⟩,f0.trans fr⟩;rw[List.map_append];exact dP.append _ _ l0.rd ⟨_,[],by simp,hr,rfl⟩
def Kk(w0:World)(S:Nat->Prop)(hS:pO w0 S)(B:Nat):∀ (N:Nat) (x:J),bG x<N->aF x=true->∀ (cs:List Value) (v:Value) (ys:List J) (L:List Value) (w:World),JH w0 S B w v ys L->Rd w0 S x.aL cs->nR ys->iO ys+au x<=8000->FlC w0 S B x cs v ys w
 | 0,x,h,_=>by omega
 | N+1,x,hN,hg=>by
  intro cs v ys L w hl hr hgl hn;by_cases h1:x.aj=1
  .obtain⟨a,cap,rfl,_⟩:=Bi hr;rw[h1];exact b3r w0 S B x h1 _ _ v ys L w hl
  by_cases h6:x.aj=6
  .have b2:=cH x hg (.inl h6);obtain⟨a,cap,rfl,hk⟩:=Bi hr;obtain⟨kb,ko,rfl,hSk,gG⟩:∃ kb ko,a=some ⟨kb,ko,none⟩/\S kb/\dh w0 S (x.U.map J.aL) kb ko:=by
    rcases hk with hk|hk
    .have:=b2.len;rw[hk] at this;cases this
    .obtain⟨kb,ko,e1,e2,e3⟩:=hk;exact⟨kb,ko,e1,e2,e3⟩
   obtain⟨c0,c1,c2,r0,q0⟩:=Wu gG 0 (by have:=b2.len;omega);obtain⟨d0,d1,d2,r1,q1⟩:=Wu gG 1 (by have:=b2.len;omega);obtain⟨g1,t1⟩:=QH _ (x.U.getD 0 zE) (Nat.lt_succ_self _) b2.g0 ys hgl;have nd:=b2.nd;rw[h6,b2.len];refine b3s w0 S B x h6 b2 _ kb ko cap _ _ _ _ _ _ v ys L w hl (hS.1 kb hSk) (by simpa using q0) (by simpa using q1)
    (λ w' l'=>Kk w0 S hS B N _ (by have:=b2.l0;omega) b2.g0 _ v ys L w' l' r0 hgl (by omega)) λ w' v' L' l' =>
    Kk w0 S hS B N _ (by have:=b2.l1;omega) b2.g1 _ v' _ L' w' l' r1 g1 (by omega)
  .exact b3t w0 S B x h1 h6 cs v ys L w hl hr (by have:iO ys=dy au ys+ys.length:=rfl;omega)
def Wg{T:TypeId}(W:World):(Instr.makeMap T none).run prog W = .ok (.map (some W.heap.size)) (W.alloc (.map #[] 0)):=by simp[Instr.makeMap]
abbrev Nm:=J×Int×Int×Option Addr×Nat×Nat
instance b4S:Inhabited Nm:=⟨(J.mk (0:Int) (0:Int) [],0,0,none,0,0)⟩
def TJ(x:Nm):List Value:=[.int .i64 x.2.1, .int .i64 x.2.2.1, .slice x.2.2.2.1 x.2.2.2.2.1 x.2.2.2.2.2]
def oZ(x:Nm):List Value := .string ⟨(aX x.1).toArray⟩::TJ x
def u6(x:Nm):(oZ x).length=4:=rfl
def a2H(x:Nm):∀ v∈oZ x,v.oneCell'=true:=λ v hv=>by
 simp[oZ,TJ] at hv;rcases hv with rfl|rfl|rfl|rfl<;>rfl
def T9:∀ (T:List Nm) (i q:Nat) (t:Nm),T[i]?=some t->q<4->(T.flatMap oZ)[i * 4+q]?=(oZ t)[q]?
 | [],i,q,t,h,_=>by simp at h
 | u::T,0,q,t,h,hq=>by
  simp only[b8L,b5E] at h;subst h;rw[b7z,b6X (by rw[u6];omega)];simp
 | u::T,i+1,q,t,h,hq=>by
  rw[List.flatMap_cons,List.getElem?_append_right (by rw[u6];omega),u6,show (i+1) * 4+q - 4=i * 4+q by omega];exact T9 T i q t (by simpa using h) hq
structure P1(w:World)(mb:Nat)(L:List J)(i:Nat):Prop where
 ex:∃ (f:List UInt8->Option Bool) (n:Nat) (es:Array MapEntry) (clock:Nat),w.heap[mb]?=some (.map es clock)/\xM ⟨.str, .bool,f,n⟩ es/\n<=i/\∀ t,(f t).getD false=true↔∃ z∈L,aX z=t
structure NmX(w0:World)(S:Nat->Prop)(w:World)(v:Value)(T:List Nm):Prop where
 own:w.ownsRow w0.heap.size 171 4 v T.length (T.flatMap oZ)
 rd:∀ t∈T,Rd w0 S t.1.aL (TJ t)
def b1v:(Tryz.prog.info? 171).map (λ i=>(i.zero,i.size,i.bytes))=some (some (.agg #[.string ⟨#[]⟩, .int .i64 0, .int .i64 0, .slice none 0 0]),4,56):=by kernel_rfl
def a3e{w:World}{B e sz n:Nat}{v:Value}{L:List Value}(h:w.ownsRow B e sz v n L):∃ ad cp,v = .slice ad n cp/\(n=0\/∃ g cur,ad=some ⟨g,0,none⟩/\B<=g/\w.heap[g]?=some (.cells cur e (0,0))/\cur.toList.take (n * sz)=L):=by
 rcases h.2 with ⟨e1,e2⟩|⟨g,cp,cur,e1,e2,e3,_,_,_,e4⟩
 .exact⟨none,0,by rw[e1,e2], .inl e2⟩
 .exact⟨_,cp,e1, .inr ⟨g,cur,rfl,e2,e3,e4⟩⟩
def a6B(w:World)(o1 o2 o3 o4 o5:Obj):(((((w.alloc o1).alloc o2).alloc o3).alloc o4).alloc o5).heap[w.heap.size]?=some o1/\(((((w.alloc o1).alloc o2).alloc o3).alloc o4).alloc o5).heap[w.heap.size+1]?=some o2 /\
  (((((w.alloc o1).alloc o2).alloc o3).alloc o4).alloc o5).heap[w.heap.size+1+1]?=some o3/\(((((w.alloc o1).alloc o2).alloc o3).alloc o4).alloc o5).heap[w.heap.size+1+1+1]?=some o4/\(((((w.alloc o1).alloc o2).alloc o3).alloc o4).alloc o5).heap[w.heap.size+1+1+1+1]?=some o5:=by
 have nw:=λ (w:World) (o:Obj)=>(c0d w o).1;refine⟨?_,?_,?_,?_,?_⟩
 .rw[b7H _ _ _ (by simp<;>omega),b7H _ _ _ (by simp<;>omega),b7H _ _ _ (by simp<;>omega),b7H _ _ _ (by simp)];exact nw w o1
 .rw[Lib.alloc_old _ _ _ (by simp<;>omega),Lib.alloc_old _ _ _ (by simp<;>omega),Lib.alloc_old _ _ _ (by simp)];exact (by simpa using nw (w.alloc o1) o2)
 .rw[Lib.alloc_old _ _ _ (by simp<;>omega),Lib.alloc_old _ _ _ (by simp)];exact (by simpa using nw ((w.alloc o1).alloc o2) o3)
 .rw[Lib.alloc_old _ _ _ (by simp)];exact (by simpa using nw (((w.alloc o1).alloc o2).alloc o3) o4)
 .exact (by simpa using nw ((((w.alloc o1).alloc o2).alloc o3).alloc o4) o5)
structure JD(b3 b4:Nat)(w w':World):Prop where
 os:w'.os=w.os
 tape:w'.tape=w.tape
 output:w'.output=w.output
 size:w.heap.size<=w'.heap.size
 block:∀ k,k<w.heap.size->k≠b3->k≠b4->w'.heap[k]?=w.heap[k]?
def JD.refl(b3 b4:Nat)(w:World):JD b3 b4 w w:=⟨rfl,rfl,rfl,b6k _,λ _ _ _ _=>rfl⟩
def JD.trans{b3 b4:Nat}{w w' To:World}(h:JD b3 b4 w w')(k:JD b3 b4 w' To):JD b3 b4 w To :=
 ⟨k.os.trans h.os,k.tape.trans h.tape,k.output.trans h.output,b7g h.size k.size,λ q h1 h2 h3=>(k.block q (b6a h1 h.size) h2 h3).trans (h.block q h1 h2 h3)⟩
def JD.er{b3 b4 B:Nat}{w0 w w':World}(h:JD b3 b4 w w')(hb:Below B w0 w)(hB:B<=w0.heap.size)(h3:B<=b3)(h4:B<=b4):Below B w0 w' :=
 hb.trans ⟨h.os,h.tape,h.output,h.size,λ k hk=>h.block k (b6a hk (b7g hB hb.size)) (by omega) (by omega)⟩
def JD.of{b3 b4:Nat}{w w':World}(h:Below w.heap.size w w'):JD b3 b4 w w':=⟨h.os,h.tape,h.output,h.size,λ k hk _ _=>h.block k hk⟩
def P1.none{w:World}{mb:Nat}(h:w.heap[mb]?=some (.map #[] 0)):P1 w mb [] 0 :=
 ⟨jm _ _,0,#[],0,h,xM.empty rfl rfl,b6k _,λ t=>by simp[jm]⟩
def P1.keep{w w':World}{mb i j:Nat}{L:List J}(h:P1 w mb L i)(tM:i<=j)(hw:w'.heap[mb]?=w.heap[mb]?):P1 w' mb L j:=by
 obtain⟨f,n,es,c,h1,h2,h3,h4⟩:=h.ex;exact⟨f,n,es,c,hw.trans h1,h2,by omega,h4⟩
def a5P(l:List UInt8)(h:l.length<=140737488355328):oL .str l (.string ⟨l.toArray⟩):=λ w S=>⟨⟨l.toArray⟩,rfl,by simp,by simpa [ByteArray.size] using h⟩
def UI(b:Bool):oL .bool b (.bool b):=λ w S=>rfl
def GB:prog.underlying 168=some (.map 9 4)/\prog.underlying 9=some .string:=⟨by kernel_rfl,by kernel_rfl⟩
def a1b(w:World):(zeroValue 4).run prog w = .ok (.bool false) w:=by
 have h:(Tryz.prog.info? 4).map (λ i=>i.zero)=some (some (.bool false)):=by kernel_rfl
 match hq:Tryz.prog.info? 4,h with
 | some i,h =>
  simp only[b8o,b5E] at h;simp[zeroValue,typeInfo,show prog.info? 4=some i from hq,h,Result.andThen]
def P1.ai{w:World}{mb i:Nat}{L:List J}(h:P1 w mb L i)(x:J)(hl:(aX x).length<=1000000)(hg:aF x=true)(hL:nR L)(hi:i<1000000000) :
  (Instr.lookup 168 (.map (some mb)) (.string ⟨(aX x).toArray⟩) false).run prog w = .ok (.bool (L.any λ y=>ke y x)) w /\
  ((L.any λ y=>ke y x)=false->∃ w',(Instr.mapUpdate 168 (.map (some mb)) (.string ⟨(aX x).toArray⟩) (.bool true)).run prog w = .ok () w'/\P1 w' mb (L++[x]) (i+1)/\w'.os=w.os/\w'.tape=w.tape/\w'.output=w.output/\w'.heap.size=w.heap.size/\∀ k,k≠mb->w'.heap[k]?=w.heap[k]?):=by
 obtain⟨f,n,es,c,h1,h2,h3,h4⟩:=h.ex;have hk:=a5P (aX x) (by omega);obtain⟨u,u1,u2⟩:=h2.ai (P:=prog) GB.1 (JC.str GB.2 w) h1 (a1b w) (UI false) (k:=aX x) hk false;have hu:[u]=[.bool ((f (aX x)).getD false)]:=u1 w (λ _=>False);simp only[b5J,b5W] at hu;subst hu;have hb:(f (aX x)).getD false=(L.any λ y=>ke y x):=by
  have e:=a7D L x hg hL;rw[<-h4] at e;cases h5:(f (aX x)).getD false<;>cases h6:L.any (λ y=>ke y x)<;>simp_all
 rw[hb] at u2;refine⟨u2,λ hf=>?_⟩;obtain⟨Xq,c',m1,m2⟩:=h2.store (P:=prog) GB.1 (JC.str GB.2 w) h1 (k:=aX x) hk (x:=true) (UI true) (show n<1000000000 by omega);obtain⟨q1,q2⟩:=MapKept.heap_set (o' := .map Xq c') h1;refine⟨_,m1,⟨_,_,Xq,c',q1,m2,?_,λ t=>?_⟩,rfl,rfl,rfl,by simp,q2⟩
 .show gH _ n<=_;unfold gH;cases (f (aX x)).isSome<;>simp<;>omega
 .show (
     fj f (aX x) true t).getD false=true↔_
  by_cases ht:t=aX x
  .subst ht;rw[qN];simp
  .rw[jA _ _ _ ht,h4];constructor
   .rintro⟨z,hz,e⟩;exact⟨z,b7v _ hz,e⟩
   .rintro⟨z,hz,e⟩;rcases b5F.1 hz with q|q
    .exact⟨z,q,e⟩
    .rw[b5Z] at q;exact absurd (by rw[<-e,q]) ht
open Go.Shelf Go.Lib Go.Sort
def a1p:∀ a b:List UInt8,decide (Lib.compareBytes a b<0)=Op.bytesLess a b
 | [],[]=>rfl
 | [],_::_=>rfl
 | _::_,[]=>rfl
 | a::x,b::y=>by
  have ih:=a1p x y;unfold Lib.compareBytes Op.bytesLess;by_cases h1:a<b
  .simp[h1]
  .by_cases h2:b<a
   .have h3:¬ a=b:=λ e=>by subst e;exact absurd h2 h1
    simp[h1,h2,h3]
   .have h3:a=b:=UInt8.le_antisymm (b9C.1 h2) (b9C.1 h1);subst h3;simp only[h1,b8j,ih];simp
abbrev ZD(x y:Nm):Int:=Lib.compareBytes (aX x.1) (aX y.1)
def ltN(x y:Nm):ltOf ZD x y=ltX x.1 y.1:=a1p _ _
def b4x:SWO (ltOf ZD) where
 irrefl x:=by rw[ltN];exact H8 _
 trans x y z h1 h2:=by rw[ltN] at *;exact Gb _ _ _ h1 h2
 ntrans x y z h1 h2:=by rw[ltN] at *;exact Qh _ _ _ h1 h2
set_option maxRecDepth 100000 in
def a2C(x y:Nm)(W:World):Calls prog 110 #[.agg (oZ x).toArray, .agg (oZ y).toArray] W λ e w'=>e = .returned (.int .i64 (ZD x y))/\∃ q os',w'=grow (W.drewN q) os':=by
 have Uh:=λ W'=>Tryz.strings_Compare ⟨(aX x.1).toArray⟩ ⟨(aX y.1).toArray⟩ W';simp only at Uh;show Calls prog 110 #[.agg #[.string ⟨(aX x.1).toArray⟩, .int .i64 x.2.1, .int .i64 x.2.2.1, .slice x.2.2.2.1 x.2.2.2.2.1 x.2.2.2.2.2], .agg #[.string ⟨(aX y.1).toArray⟩, .int .i64 y.2.1, .int .i64 y.2.2.1, .slice y.2.2.2.1 y.2.2.2.2.1 y.2.2.2.2.2]] W _;unfold ZD;generalize Lib.compareBytes (aX x.1) (aX y.1)=r at Uh ⊢;go_enter Tryz.func110,Tryz.ntmps110;go_wp2_with (go_at_call 111;refine (Uh _).mono ?_;rintro e w' ⟨rfl,rfl⟩);go_ret;exact⟨rfl,0,_,by rw[alloc_eq_grow,alloc_eq_grow,grow_grow];rfl⟩
def a7I:∀ args w,(callFunc 110 args).run prog w = .ok (.enter 110 args) w:=enters_of Tryz.func110 (by kernel_rfl) rfl
def b2r:∀ w,(isAgg (171)).run prog w = .ok true w:=Tryz.isAgg171
def b4t:∀ w,(Go.sizeOf (171)).run prog w = .ok 4 w:=Tryz.sizeOf171
def a0a(w:World)(os:Array Obj)(k:Nat)(h:k<w.heap.size):(grow w os).heap[k]?=w.heap[k]?:=by
 unfold grow;simp only;rw[Array.getElem?_append_left h]
def YS(w:World)(dD off n:Nat)(d:Array Nm)(os:Array Obj):bX (λ b=>b=dD) w (sortWorldK oZ 4 w dD off n d os):=by
 refine⟨rfl,rfl,rfl,size_sortWorldK_c _ _ _ _ _ _ _ _,λ b hb eu=>?_⟩;unfold sortWorldK;rw[a0a _ _ _ (by rw[size_putRowK];exact hb)];unfold putRowK putRow mapBlock;simp only[Sort.ahead];rw[Array.getElem?_modify,if_neg λ e=>eu e.symm]
def a1N{w0 w:World}{S:Nat->Prop}{gl cl:Nat}{T:List Nm}(h:NmX w0 S w (.slice (some ⟨gl,0,none⟩) T.length cl) T):HoldsK oZ 4 w gl 0 T.toArray:=by
 intro j hj;rw[size_flatK] at hj;have hj:j<T.length * 4:=by simpa using hj
 obtain⟨cur,hc⟩:∃ cur,w.heap[gl]?=some (.cells cur 171 (0,0)):=by
  rcases h.own.2 with ⟨e,_⟩|⟨g',c',cur,e,_,h2,_⟩
  .cases e
  .cases e;exact⟨cur,h2⟩
 have hi:j / 4<T.length:=by omega
 refine⟨?_,fz0 hc⟩;have mW:=h.own.cells (g:=gl) rfl j (id ((flatK oZ 4 T.toArray)[j]!)) (by
  have:=T9 T (j / 4) (j % 4) _ (List.getElem?_eq_getElem hi) (by omega);rw[show j / 4 * 4+j % 4=j by omega] at this;rw[this,get_flatK _ _ _ _ (by simpa using hj)];have e:T.toArray[j / 4]! = T[j / 4]:=getElem!_pos T.toArray (j / 4) (by simpa using hi);rw[e];have hl:j % 4<(oZ T[j / 4]).length:=by rw[u6];omega
  simp[hl])
 simpa [Addr.add_lit] using mW
def a0c{w:World}{gl:Nat}{d:Array Nm}(h:HoldsK oZ 4 w gl 0 d)(i:Nat)(t:Nm)(ht:d.toList[i]?=some t):bP w gl (i * 4) (oZ t):=by
 intro q v hv;have hq:q<4:=by have:=(b6o.1 hv).1;rwa [u6] at this
 have hi:i<d.size:=by have:=(List.getElem?_eq_some_iff.1 ht).1;simpa using this
 have:=(h (i * 4+q) (by rw[size_flatK];omega)).1;rw[get_flatK _ _ _ _ (by omega),show (i * 4+q) / 4=i by omega,show (i * 4+q) % 4=q by omega] at this;have e:d[i]! = t:=by
  have h1:d[i]?=some t:=by simpa using ht
  rw[getElem!_pos d i hi];exact b7N ((b6O hi).symm.trans h1)
 rw[e] at this;have h2:(oZ t)[q]! = v:=by simp[hv]
 rw[h2] at this;simpa using this
def a3n{T:List Nm}{d':Array Nm}{M:List J}(hM:T.map (·.1)=M)(hg:nR M)(hp:PermIn 0 T.toArray.size T.toArray d')(hs:SortedIn (ltOf ZD) 0 T.toArray.size d'):d'.toList.map (·.1)=Sf M/\d'.toList.Perm T:=by
 obtain⟨h1,_,h3⟩:=hp;have h3:d'.toList.Perm T:=by
  have e1:T.toArray.extract 0 T.toArray.size=T.toArray:=by simp
  have e2:d'.extract 0 T.toArray.size=d':=by rw[<-h1];simp
  rw[e1,e2] at h3;simpa using h3
 refine⟨a5W M _ hg (by rw[<-hM];exact h3.map _) ?_,h3⟩;unfold HS;rw[List.pairwise_map,List.pairwise_iff_getElem];intro i j hi hj tM;have:=hs i j (Nat.zero_le _) tM (by rw[<-h1];simpa using hj);rw[ltN] at this;have e1:d'[i]! = d'.toList[i]:=getElem!_pos d' i (by simpa using hi);have e2:d'[j]! = d'.toList[j]:=getElem!_pos d' j (by simpa using hj);rw[e1,e2] at this;exact this
def X8{w0 w:World}{S Z:Nat->Prop}(hS:pO w0 S)(hb:Below w0.heap.size w0 w)(hZ:∀ b,Z b->b<w.heap.size) :
  Calls prog 84 #[.int .i64 1, .int .i64 0] w λ e w'=>∃ (k' n':Int) (a':Option Addr) (l' c':Nat),e = .returned (.agg #[.int .i64 k', .int .i64 n', .slice a' l' c'])/\bX (λ _=>False) w w'/\Rd w' (Sx w0 S Z w') (J.mk 1 0 []).aL [.int .i64 k', .int .i64 n', .slice a' l' c']:=by
 refine (nz.2 (1:Int) (0:Int) trivial w _ [_,_] (a0R Z hS hb) ⟨⟨rfl,by decide,by decide⟩,⟨rfl,by decide,by decide⟩,af⟩).mono ?_;rintro e w' ⟨v,S',res,rfl,rfl,iP,IP,SP,hr⟩;obtain⟨cs,rfl,MB⟩:=(show ∃ cs,v = .agg cs.toArray/\Rd w' S' (J.mk 1 0 []).aL cs from hr);obtain⟨_,_,_,_,_,rfl⟩:=W2 MB;exact⟨_,_,_,_,_,rfl,iP,a2t hS hb hZ iP IP SP MB⟩
def Y5{w0 w:World}{S Z:Nat->Prop}(hS:pO w0 S)(hb:Below w0.heap.size w0 w)(hZ:∀ b,Z b->b<w.heap.size)(x y:J)(a0 a1 a2 b0 b1 b2:Value)(rx:Rd w (Sx w0 S Z w) x.aL [a0,a1,a2])(ry:Rd w (Sx w0 S Z w) y.aL [b0,b1,b2])
  (bk:Nat) (Z2:w.heap[bk]?=some (.cells #[a0,a1,a2,b0,b1,b2] 32 (0,0))) (h0:w0.heap.size<=bk) (hz:¬ Z bk) :
  Calls prog 63 #[.int .i64 6, .slice (some ⟨bk,0,none⟩) 2 2] w λ e w'=>∃ (k' n':Int) (a':Option Addr) (l' c':Nat),e = .returned (.agg #[.int .i64 k', .int .i64 n', .slice a' l' c'])/\bX (λ _=>False) w w'/\Rd w' (Sx w0 S Z w') (J.mk 6 0 [x,y]).aL [.int .i64 k', .int .i64 n', .slice a' l' c']:=by
 have hc:∀ (o:Nat) (v:Value),(#[a0,a1,a2,b0,b1,b2]:Array Value)[o]?=some v->w.cell? ⟨bk,o,none⟩=some v:=λ o v h=>by simp[World.cell?,Z2,h]
 have r1:bP w bk 0 [a0,a1,a2]:=λ j v hj=>by
  have hj3:j<3:=(b6o.1 hj).1;match j,hj3 with
  | 0,_=>exact hc 0 v hj
  | 1,_=>exact hc 1 v hj
  | 2,_=>exact hc 2 v hj
 have r2:bP w bk 3 [b0,b1,b2]:=λ j v hj=>by
  have hj3:j<3:=(b6o.1 hj).1;match j,hj3 with
  | 0,_=>exact hc 3 v hj
  | 1,_=>exact hc 4 v hj
  | 2,_=>exact hc 5 v hj
 have sx:x.aL.size=3:=by cases x;rfl
 have sy:y.aL.size=3:=by cases y;rfl
 have q1:[a0,a1,a2].length=x.aL.size:=by rw[sx];rfl
 have q2:[b0,b1,b2].length=y.aL.size:=by rw[sy];rfl
 have q3:bP w bk (0+x.aL.size) [b0,b1,b2]:=by rw[sx];exact r2
 refine (nA.2 (6:Int) [x,y] trivial w _ [_,_] (a0R Z hS hb) ⟨⟨rfl,by decide,by decide⟩,⟨some ⟨bk,0,none⟩,2,rfl,b6k 2,(show (2:Nat)<=maxLen by decide),(show (2:Nat)<=140737488355328 by decide), .inr ⟨bk,0,rfl, .inr ⟨h0,cN Z2,hz⟩,⟨[a0,a1,a2],q1,rx,r1⟩,⟨[b0,b1,b2],q2,ry,q3⟩,af⟩⟩,af⟩).mono ?_;rintro e w' ⟨v,S',res,rfl,rfl,iP,IP,SP,hr⟩;obtain⟨cs,rfl,MB⟩:=(show ∃ cs,v = .agg cs.toArray/\Rd w' S' (J.mk 6 0 [x,y]).aL cs from hr);obtain⟨_,_,_,_,_,rfl⟩:=W2 MB;exact⟨_,_,_,_,_,rfl,iP,a2t hS hb hZ iP IP SP MB⟩
def HY{a:Act}{w:World}{b:Nat}{cs:List Value}{t:TypeId}(h4:a.tmps.getD 4 undef = .pointer (some ⟨b,0,none⟩))(hb:w.heap[b]?=some (.cells cs.toArray t (0,0)))(hl:cs.length=3)(hd:a.defers=[])
  {R:Ending->World->Prop} (hR:R (.returned (.agg cs.toArray)) w):bodyPost prog Tryz.f102 R .ret a w:=by
 refine bodyPost_ret ?_ hd hR;have cJ:(Instr.loadAt 32 (.pointer (some ⟨b,0,none⟩))).run prog w = .ok (.agg cs.toArray) w:=jB (Mk (l:=[]) (wr:=[]) (cl:=[]) (ro:=[]) trivial) (T:=32) (τ := .st .expr) rfl (λ j v hj=>by simp[World.cell?,hb,hj]) hl;simp only[Instr.loadAt,Instr.sureAddr,b6p,b6q,b6i] at cJ;rw[sN,b7V];simp only[b6p,b9M,Tryz.f102,b8u,List.mapM_nil,oH,h4,asAddr,b6q,b6i,cJ];rfl
set_option maxRecDepth 100000 in
def Tm(w:World)(S:Nat->Prop)(hS:pO w S)(x y:J)(hx:aF x=true)(hy:aF y=true)(hn:au x+au y<=7000)(cx cy:List Value)(rx:Rd w S x.aL cx)(ry:Rd w S y.aL cy) :
  Calls prog 102 #[.agg cx.toArray, .agg cy.toArray] w λ e w'=>∃ cs,e = .returned (.agg cs.toArray)/\Rd w' (Sx w S (λ _=>False) w') (Tl x y).aL cs/\bX (λ _=>False) w w':=by
 obtain⟨k1,n1,a1,l1,p1,rfl⟩:=W2 rx;obtain⟨k2,n2,a2,l2,p2,rfl⟩:=W2 ry;have hmk:=Wg (T:=168);have X1:∃ W,W=((((w.alloc (.cells #[.int .i64 k1, .int .i64 n1, .slice a1 l1 p1] 32)).alloc (.cells #[.int .i64 k2, .int .i64 n2, .slice a2 l2 p2] 32)).alloc (.cells #[.int .i64 0, .int .i64 0, .slice none 0 0] 32)).alloc (.cells #[] 171)).alloc (.map #[] 0):=⟨_,rfl⟩;obtain⟨W,hW⟩:=X1;have B0:Below w.heap.size w W:=by
  rw[hW];exact (((((b9q _ w).alloc (b6k _) _).alloc (by simp) _).alloc (by simp;omega) _).alloc (by simp;omega) _).alloc (by simp;omega) _
 have Wz:W.heap.size=w.heap.size+5:=by rw[hW];simp
 obtain⟨e1,e2,e3,e4,e5⟩:=a6B w (.cells #[.int .i64 k1, .int .i64 n1, .slice a1 l1 p1] 32) (.cells #[.int .i64 k2, .int .i64 n2, .slice a2 l2 p2] 32) (.cells #[.int .i64 0, .int .i64 0, .slice none 0 0] 32) (.cells #[] 171) (.map #[] 0);rw[<-hW] at e1 e2 e3 e4 e5;go_enter Tryz.func102,Tryz.ntmps102;go_upto_region 3 with fail;rw[<-hW];clear hW hmk;have b1:w.heap.size<W.heap.size:=cN e1;have b2:w.heap.size+1<W.heap.size:=cN e2;obtain⟨⟨q0,q1,q2⟩,_,_,_⟩:=DS e1;obtain⟨⟨r0,r1,r2⟩,_,_,_⟩:=DS e2;have l0:JH w S W.heap.size W.drew (.slice none 0 0) [] []:=⟨B0.drew,B0.size,b6k _,⟨rfl, .inl ⟨rfl,rfl⟩⟩,rfl⟩;have t0:iO []=0:=rfl;have gn:nR []:=λ _ h=>by cases h
 obtain⟨g1,t1⟩:=QH _ x (b6g _) hx [] gn;obtain⟨g2,t2⟩:=QH _ y (b6g _) hy _ g1;go_wp2_with fail;go_region_held3 (λ w'=>w'.cell? ⟨w.heap.size,0,none⟩=some (.int .i64 k1)/\w'.cell? ⟨w.heap.size,1,none⟩=some (.int .i64 n1)/\w'.cell? ⟨w.heap.size,2,none⟩=some (.slice a1 l1 p1)/\w'.cell? ⟨w.heap.size+1,0,none⟩=some (.int .i64 k2)/\w'.cell? ⟨w.heap.size+1,1,none⟩=some (.int .i64 n2)/\w'.cell? ⟨w.heap.size+1,2,none⟩=some (.slice a2 l2 p2)) (go_keep)
  (first
   | (
     go_at_call_of 108 k1
     refine (Kk w S hS W.heap.size _ x (b6g _) hx _ (.slice none 0 0) [] [] _ l0 rx gn (by omega)).mono ?_
     rintro e w2 ⟨v1,L1,he,l1,f1⟩
     subst he
     have m1:∀ k,k<W.heap.size->w2.heap[k]?=W.heap[k]?:=λ k hk=>f1.g.block k hk (by simp[Value.ownBlock])
     obtain⟨⟨q3,q4,q5⟩,_,_,_⟩:=DS ((m1 _ b1).trans e1)
     obtain⟨⟨r3,r4,r5⟩,_,_,_⟩:=DS ((m1 _ b2).trans e2))
   | (
     go_at_call_of 108 k2
     refine (Kk w S hS W.heap.size _ y (b6g _) hy _ v1 _ L1 _ l1 ry g1 (by omega)).mono ?_
     rintro e w3 ⟨v2,L2,he,l2,f2⟩
     subst he
     have m2:∀ k,k<W.heap.size->w3.heap[k]?=W.heap[k]?:=λ k hk=>(f2.g.block k (b6a hk f1.g.size) (λ e=>(f1.own k e.symm).elim (λ q=>by simp[Value.ownBlock] at q) λ q=>by have q:W.heap.size<=k:=q;omega)).trans (m1 k hk)
     obtain⟨⟨q6,q7,q8⟩,_,_,_⟩:=DS ((m2 _ b1).trans e1)
     obtain⟨⟨r6,r7,r8⟩,_,_,_⟩:=DS ((m2 _ b2).trans e2)
     obtain⟨ad,cp,rfl,hFL⟩:=a3e l2.own))
 obtain⟨iN,hN,hN0,hN1,hN2⟩:=info_parts b1v;have hdk:=a7E x y hx hy;have hsu:=a9K x y hx hy;have hsv:Tl x y=wK (Sf (kI y (kI x []))):=rfl;have a9G:=l2.rd;have a3S:=l2.er;have s3:=l2.bw;have hFg:=g2;have hFt:iO (Ax y (Ax x []))<=7002:=by omega
 have f3:=(m2 _ (cN e3)).trans e3;have f4:=(m2 _ (cN e4)).trans e4;have f5:=(m2 _ (cN e5)).trans e5;clear t1 t2 g1 g2 t0 gn q0 q1 q2 r0 r1 r2 q3 q4 q5 r3 r4 r5 q6 q7 q8 r6 r7 r8 l0 e1 e2 e3 e4 e5 f1 f2 m1 l1 l2 b1 b2;generalize Ax y (Ax x [])=FL at *
 have hFn:FL.length<=7002:=by have:iO FL=dy au FL+FL.length:=rfl;omega
 rename_i b1h;clear b1h;go_wp2_with fail;go_loopw [5,20] (λ vl i wr=>∃ (k:Nat) (T:List Nm) (g c:Nat),i = .int .i64 k/\k<=FL.length/\T.map (·.1)=xD FL k/\vl = .slice (some ⟨g,0,none⟩) T.length c/\NmX w S wr vl T/\P1 wr (w.heap.size+1+1+1+1) (xD FL k) k /\
   JD (w.heap.size+1+1+1) (w.heap.size+1+1+1+1) w3 wr/\(g=w.heap.size+1+1+1\/w3.heap.size<=g)) (λ vl i wr=>FL.length - kN i)
 .refine⟨0,[],w.heap.size+1+1+1,0,rfl,b6L _,rfl,rfl,⟨⟨rfl, .inr ⟨w.heap.size+1+1+1,0,#[],rfl,by omega,f4,b6k _,by simp[maxLen],rfl,rfl⟩⟩,λ t ht=>by cases ht⟩,P1.none f5,JD.refl _ _ _, .inl rfl⟩
 obtain⟨k,T,gl,cl,rfl,hk,hT,rfl,SQ,hSe,XB,hgl⟩:=hrel;by_cases bp:k<FL.length
 .obtain⟨z,hz⟩:∃ z,FL[k]?=some z:=⟨_,b6e bp⟩;have hgz:aF z=true:=hFg z (b6N hz);have hnz:au z<=9000:=by
   have:au z<=dy au FL:=by
    obtain⟨a,b,rfl⟩:=List.append_of_mem (b6N hz);rw[Ly];simp[dy];omega
   have:iO FL=dy au FL+FL.length:=rfl;omega
  have XO:=a0X z hgz hnz;have hdz:=Qw FL k z hz;have hdg:=EC FL hFg k;have hdl:=Vs FL k;obtain⟨g,cur,rfl,hgW,QY,hgt⟩:=hFL.resolve_left (by omega);have b3Q:wr.heap[g]?=some (.cells cur 32 (0,0)):=(XB.block g (cN QY) (by omega) (by omega)).trans QY;obtain⟨c0,c1,c2,hcz,hrz⟩:=a5J b3Q hgt a9G k z hz;obtain⟨zk,zn,za,zl,zc,hce⟩:=W2 hrz;simp only[b5J,b5W] at hce;obtain⟨rfl,rfl,rfl⟩:=hce;have z0:wr.cell? ⟨g,k * 3,none⟩=some (.int .i64 zk):=hcz 0 _ rfl;have z1:wr.cell? ⟨g,k * 3+1,none⟩=some (.int .i64 zn):=hcz 1 _ rfl;have z2:wr.cell? ⟨g,k * 3+2,none⟩=some (.slice za zl zc):=hcz 2 _ rfl;have bk0:(0:Int)<=(k:Int):=by omega
  have bk1:(k:Int)<(FL.length:Int):=by omega
  have Qg:Below w.heap.size w wr:=XB.er a3S (b6k _) (by omega) (by omega);have srw:=XB.size;go_upto_region 6 with fail;have n4:=b7L wr (.cells #[.int .i64 zk, .int .i64 zn, .slice za zl zc] 32);have b4:Below wr.heap.size wr (wr.alloc (.cells #[.int .i64 zk, .int .i64 zn, .slice za zl zc] 32)):=(b9q _ wr).alloc (b6k _) _;have sz4:(wr.alloc (.cells #[.int .i64 zk, .int .i64 zn, .slice za zl zc] 32)).heap.size=wr.heap.size+1:=by simp
  generalize wr.alloc (.cells #[.int .i64 zk, .int .i64 zn, .slice za zl zc] 32)=w4 at *
  have a3R:Below w.heap.size w w4:=Qg.trans (b4.mono Qg.size);obtain⟨⟨o0,o1,o2⟩,_,_,_⟩:=DS n4;go_wp2_with (go_at_call 47;refine (LC z w4 S (λ b hb=>b6a (hS.1 b hb) a3R.size) hgz XO _ (b4m hS a3R hrz)).mono ?_);rintro e w5 ⟨he,b5⟩;subst he;have b45:Below wr.heap.size wr w5:=b4.trans (b5.mono (by omega));have b4Q:Below w.heap.size w w5:=Qg.trans (b45.mono Qg.size);have n5:=(b5.block _ (cN n4)).trans n4;obtain⟨⟨m0,m1,m2'⟩,_,_,_⟩:=DS n5;have N1:JD (w.heap.size+1+1+1) (w.heap.size+1+1+1+1) w3 w5:=XB.trans (JD.of b45);have b5D:w.heap.size+1+1+1+1<w3.heap.size:=cN f5;have a9m:P1 w5 (w.heap.size+1+1+1+1) (xD FL k) k:=hSe.keep (b6k _) (b45.block _ (by omega));have a0d:=SQ.own.kept (a4A b45) (.inr (by simp[Value.ownBlock]));have hs5:=b5.size;obtain⟨Mx,AJ⟩:=a9m.ai z XO hgz hdg (by omega);rcases b6h ((xD FL k).any λ y=>ke y z) with ha|ha
  .rw[ha] at Mx;go_wp2;refine⟨⟨k+1,T,gl,cl,by first|rfl|simp,bp,?_,rfl,⟨a0d,SQ.rd⟩,?_,N1,hgl⟩,?_⟩
   .rw[hT,hdz,Ka,b5Q ha]
   .rw[hdz,Ka,b5Q ha];exact a9m.keep (b9N _) rfl
   .simp only[kN];omega
  .rw[ha] at Mx;obtain⟨w6,b5C,b3B,u1,u2,u3,u4,u5⟩:=AJ ha;have n6:=(u5 wr.heap.size (by omega)).trans n5;obtain⟨⟨m3,m4,m5⟩,_,_,_⟩:=DS n6;have hg6:w5.grownBy w6 (some (w.heap.size+1+1+1+1)):=⟨u1,u2,u3,by omega,λ q h1 h2=>u5 q λ e=>h2 (by rw[e])⟩;have b1q:=a0d.kept hg6 (.inr (by simp[Value.ownBlock];omega));have b1r:=b1q.alloc (.cells #[.string ⟨(aX z).toArray⟩, .int .i64 zk, .int .i64 zn, .slice za zl zc] 171);have hTl:(xD FL k).length=T.length:=by rw[<-hT,b6G]
   have hu4:w5.heap.size=w6.heap.size:=u4.symm;clear u4;go_wp2_with (at_builtin;refine yJ rfl _ _ 167 rfl w.heap.size 171 iN _ 4 56 Tryz.underlying167 hN hN0 hN1 hN2 rfl (by decide) _ T.length _ rfl b1r ⟨w6.heap.size,0,none⟩ 1 1 [.string ⟨(aX z).toArray⟩, .int .i64 zk, .int .i64 zn, .slice za zl zc] (by first|rfl|simp) (by rfl) (World.news_of_block (cs := #[.string ⟨(aX z).toArray⟩, .int .i64 zk, .int .i64 zn, .slice za zl zc]) (t:=171) (fr:=(0,0)) (b7L w6 _)) (by simp[Value.oneCell']) (by simp[maxLen];omega) (by omega) (by simp;omega) ?_);intro v' w7 kV tL hat p9;go_wp2;rcases kV.2 with ⟨e,_⟩|⟨g',c',b5r,rfl,o1',o2',o3',o4',o5',o6'⟩
   .exact (p9 e).elim
   have b5B:w6.heap.size+1<=w7.heap.size:=by simpa using tL.size
   have a8Z:∀ q,q<w6.heap.size->q≠gl->w7.heap[q]?=w6.heap[q]?:=λ q h1 h2=>(tL.block q (by simp;omega) (λ e=>h2 (b7N e))).trans (b7H _ _ _ h1);have b5u:gl<w5.heap.size:=(Lg a0d gl rfl).2;refine⟨⟨k+1,T++[(z,zk,zn,za,zl,zc)],g',c',by first|rfl|simp,bp,?_,by simp,⟨?_,λ t ht=>?_⟩,?_,?_,?_⟩,?_⟩
   .rw[hdz,Ka,b5I (by rw[ha];decide),b7t,hT];rfl
   .rw[b5Y,List.flatMap_append];exact kV
   .rcases b5F.1 ht with q|q
    .exact SQ.rd t q
    .rw[b5Z] at q;rw[q];exact hrz
   .rw[hdz,Ka,b5I (by rw[ha];decide)];exact b3B.keep (b6k _) (a8Z _ (by omega) (by omega))
   .exact⟨tL.os.trans (u1.trans N1.os),tL.tape.trans (u2.trans N1.tape),tL.output.trans (u3.trans N1.output),by have:=N1.size;omega,λ q h1 h2 h3=>(a8Z q (by have:=N1.size;omega) (by rintro rfl;exact hgl.elim (λ e=>h2 e) λ e=>by omega)).trans ((u5 q h3).trans (N1.block q h1 h2 h3))⟩
   .rcases hat with e|e
    .have e:g'=gl:=by simpa [Value.ownBlock] using e
     rw[e];exact hgl
    .have e:g'=w6.heap.size+1:=by simpa [Value.ownBlock] using e
     exact .inr (by have:=N1.size;omega)
   .simp only[kN];omega
 .have hke:k=FL.length:=by omega
  have hM:=hdk k (by omega);rw[hM] at hT;have hMg:=hM ▸ EC FL hFg k;clear hdk hSe hFL a9G hFg hFt;have hTl:T.length<=7002:=by
   have h1:T.length=(kI y (kI x [])).length:=by rw[<-hT,b6G]
   have h2:=Vs FL k;rw[hM] at h2;omega
  have QS:T.toArray.size<4611686018427387904:=by rw[b9k];omega
  have Uh:Calls prog 109 #[.slice (some ⟨gl,0,none⟩) T.length cl, .func (.func 110) #[] #[]] wr λ e w'=>e = .returned (.tuple #[])/\∃ d' n os,PermIn 0 T.toArray.size T.toArray d'/\SortedIn (ltOf ZD) 0 T.toArray.size d'/\w'=sortWorldK oZ 4 wr gl 0 n d' os :=
   AnyQ.slices_SortFunc Tryz.a8E 4 b2r b4t oZ u6 a2H ZD b4x 110 #[] gl 0 cl T.toArray wr a7I (λ _ _ _ _ x y=>a2C x y _) (a1N SQ) (Lg SQ.own gl rfl).2 QS
  go_wp2_with (go_at_call 109;refine Uh.mono ?_);rintro e w4 ⟨he,d',nn,os,hp,hs',hw4⟩;subst he;obtain⟨hsr,hpm⟩:=a3n hT hMg hp hs';have a4I:=(Lg SQ.own gl rfl);have XL:bX (λ b=>b=gl) wr w4:=by rw[hw4];exact YS _ _ _ _ _ _
  have hH4:HoldsK oZ 4 w4 gl 0 d':=by rw[hw4];exact holdsK_sortWorldK_c _ _ _ _ _ _ _ _ _ (a1N SQ) a4I.2 hp.1
  have xH:=λ i t h=>a0c hH4 i t h;have a9z:∀ t∈d'.toList,Rd w S t.1.aL (TJ t):=λ t ht=>SQ.rd t (hpm.mem_iff.1 ht);have hDl:d'.toList.length=T.length:=hpm.length_eq;have Qg:Below w.heap.size w wr:=XB.er a3S (b6k _) (by omega) (by omega);have b4:Below w.heap.size w w4:=Qg.trans ⟨XL.os,XL.tape,XL.output,XL.size,λ q hq=>XL.block q (b6a hq Qg.size) (by omega)⟩;have hw3:=cN f3;have hLs:=XB.size;have z4:w4.heap[w.heap.size+1+1]?=some (.cells #[.int .i64 0, .int .i64 0, .slice none 0 0] 32 (0,0)):=(XL.block _ (by omega) (by omega)).trans ((XB.block _ hw3 (by omega) (by omega)).trans f3);have b3P:gl<w4.heap.size:=b6a a4I.2 XL.size;have b5v:gl≠w.heap.size+1+1:=by omega
  have b5s:T.length<=cl:=by
   rcases SQ.own.2 with ⟨e,_⟩|⟨_,_,_,e,_,_,h,_⟩
   .cases e
   .cases e;exact h
  clear Uh hw4 hH4 hp hs' SQ hpm XL hLs a4I;generalize d'.toList=D at *
  have hZS:Sf (kI y (kI x []))=D.map (·.1):=hsr.symm;rw[hZS] at hsu hsv;generalize kI y (kI x [])=M at *
  clear hM hsr hZS hT hMg XB f3 f4 f5 m2;have hZ0:∀ b,b=w.heap.size+1+1->w.heap.size<=b:=λ b h=>by omega
  have lt4:=cN z4;go_upto_region 12 with fail;generalize hnT:T.length=n at *
  by_cases hn0:n=0
  .subst hn0;have e0:D=[]:=List.eq_nil_of_length_eq_zero hDl;go_wp2_with (go_at_call 84;refine (X8 (Z:=λ b=>b=w.heap.size+1+1) hS b4 (λ b hb=>by have hb:b=w.heap.size+1+1:=hb;omega)).mono ?_);rintro e w5 ⟨ek,en,ea,em,ec,he,hk5,r5⟩;subst he;have z5:=(hk5.block _ lt4 id).trans z4;have b5:=b4.trans (Qf hk5 b4.size);obtain⟨⟨k0,k1,k2⟩,g0,g1,g2⟩:=DS z5;go_wp2;obtain⟨z6,o6⟩:=a5Z (.int .i64 ek) (.int .i64 en) (.slice ea em ec) z5;refine HY (cs:=[.int .i64 ek, .int .i64 en, .slice ea em ec]) rfl z6 rfl rfl ?_;refine⟨[.int .i64 ek, .int .i64 en, .slice ea em ec],rfl,?_,b5.os,b5.tape,b5.output,by simpa using b5.size,λ b hb _=>(o6 b (by omega)).trans (b5.block b hb)⟩;rw[hsv,e0];exact Sk hS b5 (by simp) hZ0 (λ b _ h=>o6 b h) (λ b _ h=>h.elim) r5
  .obtain⟨t0,sb⟩:∃ t,D[0]?=some t:=⟨_,List.getElem?_eq_getElem (by omega)⟩;have c0:=xH 0 t0 sb;have a0:w4.cell? ⟨gl,0,none⟩=some (.string ⟨(aX t0.1).toArray⟩):=by simpa using c0 0 _ rfl
   have a1':w4.cell? ⟨gl,1,none⟩=some (.int .i64 t0.2.1):=by simpa using c0 1 _ rfl
   have a2':w4.cell? ⟨gl,2,none⟩=some (.int .i64 t0.2.2.1):=by simpa using c0 2 _ rfl
   have a3':w4.cell? ⟨gl,3,none⟩=some (.slice t0.2.2.2.1 t0.2.2.2.2.1 t0.2.2.2.2.2):=by simpa using c0 3 _ rfl
   have bn0:(0:Int)<(n:Int):=by omega
   have bn1:(1:Int)<=(n:Int):=by omega
   have bn2:(n:Int)<=(cl:Int):=by omega
   go_upto_region 15 with fail;have r0':Rd w S t0.1.aL (TJ t0):=a9z t0 (b6N sb);have n4:=b7L w4 (.cells #[.int .i64 t0.2.1, .int .i64 t0.2.2.1, .slice t0.2.2.2.1 t0.2.2.2.2.1 t0.2.2.2.2.2] 32);have m6:∀ b,b<w4.heap.size->(w4.alloc (.cells #[.int .i64 t0.2.1, .int .i64 t0.2.2.1, .slice t0.2.2.2.1 t0.2.2.2.2.1 t0.2.2.2.2.2] 32)).heap[b]?=w4.heap[b]?:=λ b hb=>b7H _ _ _ hb;have b6:Below w.heap.size w (w4.alloc (.cells #[.int .i64 t0.2.1, .int .i64 t0.2.2.1, .slice t0.2.2.2.1 t0.2.2.2.2.1 t0.2.2.2.2.2] 32)):=b4.alloc (by omega) _;have s6:(w4.alloc (.cells #[.int .i64 t0.2.1, .int .i64 t0.2.2.1, .slice t0.2.2.2.1 t0.2.2.2.2.1 t0.2.2.2.2.2] 32)).heap.size=w4.heap.size+1:=by simp
   generalize w4.alloc (.cells #[.int .i64 t0.2.1, .int .i64 t0.2.2.1, .slice t0.2.2.2.1 t0.2.2.2.2.1 t0.2.2.2.2.2] 32)=w6 at *
   have z6:=(m6 _ lt4).trans z4;have b3K:∀ i t,D[i]?=some t->bP w6 gl (i * 4) (oZ t):=λ i t h=>(xH i t h).keep (m6 _ b3P);have r6:Rd w6 (Sx w S (λ b=>b=w.heap.size+1+1\/b=w4.heap.size) w6) (wK ((D.map (·.1)).take 1)).aL [.int .i64 t0.2.1, .int .i64 t0.2.2.1, .slice t0.2.2.2.1 t0.2.2.2.2.1 t0.2.2.2.2.2]:=by
    have:wK ((D.map (·.1)).take 1)=t0.1:=by
     match D,sb with
     | t::_,sb=>cases sb;rfl
    rw[this];exact a6f _ hS b6 r0'
   clear xH m6 a0 a1' a2' a3' c0 z4;generalize hT0:w4.heap.size=T0 at *
   go_cut [50,51,52] (λ s50 s51 s52 wx=>wx=w6/\s51 = .int .i64 ((n - 1:Nat):Int)/\s52 = .int .i64 0/\∃ o c,s50 = .slice (some ⟨gl,o,none⟩) (n - 1) c/\(n - 1=0\/o=4));case first =>
    have e1:(n:Int) - 1=((n - 1:Nat):Int):=by omega
    by_cases Mv:cl=1
    .subst Mv;have VW:n=1:=by omega
     subst VW;go_wp2;go_meet;exact⟨rfl,rfl,rfl,_,_,rfl, .inl (by simp)⟩
    .go_wp2;go_meet;exact⟨rfl,rfl,rfl,_,_,rfl, .inr rfl⟩
   case rest =>
    obtain⟨hwc,rfl,rfl,o,c,rfl,ho⟩:=hcut;cases hwc;go_wp2;go_loopw [52] (λ i wr=>∃ (j:Nat) (k' n':Int) (a':Option Addr) (l' c':Nat),i = .int .i64 j/\1+j<=n/\w6.grownBy wr (some T0)/\wr.heap[T0]?=some (.cells #[.int .i64 k', .int .i64 n', .slice a' l' c'] 32 (0,0)) /\
     Rd wr (Sx w S (λ b=>b=w.heap.size+1+1\/b=T0) wr) (wK ((D.map (·.1)).take (j+1))).aL [.int .i64 k', .int .i64 n', .slice a' l' c']) (λ i wr=>n - kN i)
    .exact⟨0,_,_,_,_,_,rfl,by omega,⟨rfl,rfl,rfl,b6k _,λ _ _ _=>rfl⟩,n4,r6⟩
    obtain⟨j,ak,an,aa,al,ac,rfl,hjn,QY,wC,hrr⟩:=hrel;have br:RowKit.Below w.heap.size w wr:=b6.grown QY (by omega) (λ q e=>by have e':T0=q:=b7N e;omega);have ltr:=cN wC;have szr:=QY.size;by_cases hjl:1+j<n
    .have ho4:o=4:=ho.resolve_left (by omega);subst ho4;obtain⟨t,ht⟩:∃ t,D[j+1]?=some t:=⟨_,b6e (by omega)⟩;have hct:=(b3K (j+1) t ht).keep (QY.block gl (by omega) (λ e=>by have e':gl=T0:=b7N e;omega));have y0:wr.cell? ⟨gl,4+j * 4,none⟩=some (.string ⟨(aX t.1).toArray⟩):=by have:=hct 0 _ rfl;rwa [show (j+1) * 4+0=4+j * 4 by omega] at this
     have y1:wr.cell? ⟨gl,4+j * 4+1,none⟩=some (.int .i64 t.2.1):=by have:=hct 1 _ rfl;rwa [show (j+1) * 4+1=4+j * 4+1 by omega] at this
     have y2:wr.cell? ⟨gl,4+j * 4+2,none⟩=some (.int .i64 t.2.2.1):=by have:=hct 2 _ rfl;rwa [show (j+1) * 4+2=4+j * 4+2 by omega] at this
     have y3:wr.cell? ⟨gl,4+j * 4+3,none⟩=some (.slice t.2.2.2.1 t.2.2.2.2.1 t.2.2.2.2.2):=by have:=hct 3 _ rfl;rwa [show (j+1) * 4+3=4+j * 4+3 by omega] at this
     have bj0:(0:Int)<=(j:Int):=by omega
     have bj1:(j:Int)<((n - 1:Nat):Int):=by omega
     obtain⟨⟨v0,v1',v2⟩,_,_,_⟩:=DS wC;go_upto_region 18 with fail;have rt:Rd w S t.1.aL (TJ t):=a9z t (b6N ht);have n7:=b7L wr (.cells #[.string ⟨(aX t.1).toArray⟩, .int .i64 t.2.1, .int .i64 t.2.2.1, .slice t.2.2.2.1 t.2.2.2.2.1 t.2.2.2.2.2] 171);have b7:RowKit.Below w.heap.size w (wr.alloc (.cells #[.string ⟨(aX t.1).toArray⟩, .int .i64 t.2.1, .int .i64 t.2.2.1, .slice t.2.2.2.1 t.2.2.2.2.1 t.2.2.2.2.2] 171)):=br.alloc (by omega) _;have k7:bX (λ _=>False) wr (wr.alloc (.cells #[.string ⟨(aX t.1).toArray⟩, .int .i64 t.2.1, .int .i64 t.2.2.1, .slice t.2.2.2.1 t.2.2.2.2.1 t.2.2.2.2.2] 171)):=⟨rfl,rfl,rfl,by simp,λ b hb _=>b7H _ _ _ hb⟩;have s7:(wr.alloc (.cells #[.string ⟨(aX t.1).toArray⟩, .int .i64 t.2.1, .int .i64 t.2.2.1, .slice t.2.2.2.1 t.2.2.2.2.1 t.2.2.2.2.2] 171)).heap.size=wr.heap.size+1:=by simp
     generalize wr.alloc (.cells #[.string ⟨(aX t.1).toArray⟩, .int .i64 t.2.1, .int .i64 t.2.2.1, .slice t.2.2.2.1 t.2.2.2.2.1 t.2.2.2.2.2] 171)=w7 at *
     have q0:w7.cell? ⟨wr.heap.size,1,none⟩=some (.int .i64 t.2.1):=by simp[World.cell?,n7]
     have q1:w7.cell? ⟨wr.heap.size,2,none⟩=some (.int .i64 t.2.2.1):=by simp[World.cell?,n7]
     have q2:w7.cell? ⟨wr.heap.size,3,none⟩=some (.slice t.2.2.2.1 t.2.2.2.2.1 t.2.2.2.2.2):=by simp[World.cell?,n7]
     have t7:=(k7.block _ ltr id).trans wC;obtain⟨⟨v3,v4,v5⟩,_,_,_⟩:=DS t7;have n8:=b7L w7 (.cells #[.int .i64 ak, .int .i64 an, .slice aa al ac, .int .i64 t.2.1, .int .i64 t.2.2.1, .slice t.2.2.2.1 t.2.2.2.2.1 t.2.2.2.2.2] 32);rw[s7] at n8;have sbr:=br.size;have b8:RowKit.Below w.heap.size w (w7.alloc (.cells #[.int .i64 ak, .int .i64 an, .slice aa al ac, .int .i64 t.2.1, .int .i64 t.2.2.1, .slice t.2.2.2.1 t.2.2.2.2.1 t.2.2.2.2.2] 32)):=b7.alloc (by omega) _;have k8:bX (λ _=>False) w7 (w7.alloc (.cells #[.int .i64 ak, .int .i64 an, .slice aa al ac, .int .i64 t.2.1, .int .i64 t.2.2.1, .slice t.2.2.2.1 t.2.2.2.2.1 t.2.2.2.2.2] 32)):=⟨rfl,rfl,rfl,by simp,λ b hb _=>b7H _ _ _ hb⟩;have s8:(w7.alloc (.cells #[.int .i64 ak, .int .i64 an, .slice aa al ac, .int .i64 t.2.1, .int .i64 t.2.2.1, .slice t.2.2.2.1 t.2.2.2.2.1 t.2.2.2.2.2] 32)).heap.size=w7.heap.size+1:=by simp
     have rr8:=YZ hS b7 k8 (YZ hS br k7 hrr);have ry8:=a6f (λ b=>b=w.heap.size+1+1\/b=T0) hS b8 rt;have hZ8:∀ b,(b=w.heap.size+1+1\/b=T0)->b<(w7.alloc (.cells #[.int .i64 ak, .int .i64 an, .slice aa al ac, .int .i64 t.2.1, .int .i64 t.2.2.1, .slice t.2.2.2.1 t.2.2.2.2.1 t.2.2.2.2.2] 32)).heap.size:=λ b h=>by rw[s8];rcases h with h|h<;>omega
     go_wp2_with (go_at_call 63;refine (Y5 (Z:=λ b=>b=w.heap.size+1+1\/b=T0) hS b8 hZ8 _ t.1 _ _ _ _ _ _ rr8 ry8 (wr.heap.size+1) n8 (by omega) (by omega)).mono ?_);intro e w9 fk fn fa fm fc he hk9 r9;subst he;have t9:=(hk9.block T0 (by rw[s8];omega) id).trans ((k8.block _ (by omega) id).trans t7);obtain⟨⟨x0,x1,x2⟩,y0',y1',y2'⟩:=DS t9;have b9:=b8.trans (Qf hk9 b8.size);go_wp2;obtain⟨z9,o9⟩:=a5Z (.int .i64 fk) (.int .i64 fn) (.slice fa fm fc) t9;have s9:=hk9.size;have hj:=X4 (D.map (·.1)) (j+1) t.1 (by omega) (by rw[b7m,ht];rfl);refine⟨⟨j+1,fk,fn,fa,fm,fc,by simp,by omega,⟨hk9.os.trans (k7.os.trans QY.os),hk9.tape.trans (k7.tape.trans QY.tape),hk9.output.trans (k7.output.trans QY.output),by simp;omega,λ q hq eu=>?_⟩,z9,?_⟩,?_⟩
     .have DY:q<wr.heap.size:=by omega
      exact (o9 q (λ e=>eu (by rw[e]))).trans ((hk9.block q (by rw[s8];omega) id).trans ((k8.block q (by omega) id).trans ((k7.block q DY id).trans (QY.block q hq eu))))
     .rw[hj];exact Sk (Z:=λ b=>b=w.heap.size+1+1\/b=T0) hS b9 (by simp) (λ b h=>by rcases h with h|h<;>omega) (λ b _ hb=>o9 b λ e=>hb (.inr e)) (λ _ _ h=>h) r9
     .simp only[kN];omega
    .have b5w:1+j=n:=by omega
     have bjn:¬ (j:Int)<((n - 1:Nat):Int):=by omega
     have zr:=(QY.block (w.heap.size+1+1) (by omega) (λ e=>by have e':=Option.some.inj e;omega)).trans z6;obtain⟨⟨k0,k1',k2'⟩,g0,g1,g2⟩:=DS wC;obtain⟨⟨x0,x1,x2⟩,y0,y1,y2⟩:=DS zr;obtain⟨z9,o9⟩:=a5Z (.int .i64 ak) (.int .i64 an) (.slice aa al ac) zr;go_wp2;refine HY (cs:=[.int .i64 ak, .int .i64 an, .slice aa al ac]) rfl z9 rfl rfl ?_;refine⟨[.int .i64 ak, .int .i64 an, .slice aa al ac],rfl,?_,br.os,br.tape,br.output,by simpa using br.size,λ b hb _=>(o9 b (by omega)).trans (br.block b hb)⟩;(try rw[hsv]);rw[show (D.map (·.1)).take (j+1)=D.map (·.1) from List.take_of_length_le (by rw[List.length_map];omega)] at hrr;exact Sk (Z:=λ b=>b=w.heap.size+1+1\/b=T0) hS br (by simp) (λ b h=>by rcases h with h|h<;>omega) (λ b _ hb=>o9 b λ e=>hb (.inl e)) (λ b _ h=>h.elim) hrr
def tQ:bc:=⟨Dw,[.v (.st .expr), .v (.st .expr)],λ (x:J) (b:J)=>⟨(some (aF x=true/\aF b=true/\au x+au b<=7000),[⟨(.st .expr),Tl x b⟩])⟩⟩
def IE:bc.Good tQ:=by
 refine⟨aG LU rfl (by decide),?_⟩;intro x y hp w S bK hS ha;match bK,ha with
 | [v1,v2],ha =>
  obtain⟨⟨cx,rfl,rx⟩,⟨cy,rfl,ry⟩,_⟩:=ha;refine (Tm w S hS x y hp.1 hp.2.1 hp.2.2 cx cy rx ry).mono ?_;rintro e w' ⟨cs,rfl,hr,hk⟩;exact⟨_,Sx w S (λ _=>False) w',_,rfl,rfl,hk,λ b hb=>⟨λ h=>h.elim id λ h=>by omega, .inl⟩,λ b h=>h.elim (λ h=>b6a (hS.1 b h) hk.size) λ h=>h.2.1,⟨cs,rfl,hr⟩⟩
end
end Go.Proofs.YtlpndogmpcolnaaGreatDoor

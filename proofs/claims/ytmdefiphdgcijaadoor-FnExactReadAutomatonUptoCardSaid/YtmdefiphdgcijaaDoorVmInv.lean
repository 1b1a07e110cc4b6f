/- How a state of the abstract machine stands to the frame and the memory of the real one. -/
import Derived.Test.YtmdefiphdgcijaaDoorVmMap
import Derived.Calls
set_option linter.unusedVariables false
set_option linter.unusedSimpArgs false
namespace Go.Proofs.YtmdefiphdgcijaaDoor
def a0g{α β:Type}(R:α→β→Prop):List α→List β→Prop
 | [],[]=>True
 | a::as,b::bs=>R a b∧a0g R as bs
 | _,_=>False
theorem a0g.length{α β:Type}{R:α→β→Prop}:∀ {as:List α} {bs:List β},a0g R as bs→as.length=bs.length
 | [],[],_=>rfl
 | _::_,_::_,h=>by simp[a0g.length h.2]
 | [],_::_,h=>h.elim
 | _::_,[],h=>h.elim
theorem a0g.imp{α β:Type}{R R':α→β→Prop}:∀ {as:List α} {bs:List β},a0g R as bs→(∀ a b,a∈as→R a b→R' a b)→a0g R' as bs
 | [],[],_,_=>trivial
 | _::_,_::_,h,k=>⟨k _ _ (by simp) h.1,a0g.imp h.2 fun a b ha=>k a b (by simp[ha])⟩
 | [],_::_,h,_=>h.elim
 | _::_,[],h,_=>h.elim
theorem a0g.at_{α β:Type}{R:α→β→Prop}:∀ {as:List α} {bs:List β},a0g R as bs→∀ (i:Nat) a,as[i]?=some a→∃ b,bs[i]?=some b∧R a b
 | [],[],_,i,a,h=>by simp at h
 | _::_,b::_,h,0,a,hi=>by simp at hi;subst hi;exact⟨b,rfl,h.1⟩
 | _::_,_::_,h,i+1,a,hi=>by simpa using a0g.at_ h.2 i a (by simpa using hi)
 | [],_::_,h,_,_,_=>h.elim
 | _::_,[],h,_,_,_=>h.elim
theorem a0g.append{α β:Type}{R:α→β→Prop}:∀ {as:List α} {bs:List β} {as' bs'},a0g R as bs→a0g R as' bs'→a0g R (as++as') (bs++bs')
 | [],[],_,_,_,k=>k
 | _::_,_::_,_,_,h,k=>⟨h.1,a0g.append h.2 k⟩
 | [],_::_,_,_,h,_=>h.elim
 | _::_,[],_,_,h,_=>h.elim
theorem a0g.take{α β:Type}{R:α→β→Prop}(n:Nat):∀ {as:List α} {bs:List β},a0g R as bs→a0g R (as.take n) (bs.take n):=by
 induction n with
 | zero=>intro as bs _;simp[a0g]
 | succ n ih =>
  intro as bs h
  match as,bs,h with
  | [],[],_=>simp[a0g]
  | _::_,_::_,h=>exact⟨h.1,ih h.2⟩
theorem a0g.drop{α β:Type}{R:α→β→Prop}(n:Nat):∀ {as:List α} {bs:List β},a0g R as bs→a0g R (as.drop n) (bs.drop n):=by
 induction n with
 | zero=>intro as bs h;simpa using h
 | succ n ih =>
  intro as bs h
  match as,bs,h with
  | [],[],_=>simp[a0g]
  | _::_,_::_,h=>exact ih h.2
theorem a0g.map_left{α β γ:Type}{R:γ→β→Prop}(f:α→γ):∀ {as:List α} {bs:List β},a0g (fun a b=>R (f a) b) as bs→a0g R (as.map f) bs
 | [],[],_=>trivial
 | _::_,_::_,h=>⟨h.1,a0g.map_left f h.2⟩
 | [],_::_,h=>h.elim
 | _::_,[],h=>h.elim
theorem a0g.of_map{α β γ:Type}{R:γ→β→Prop}(f:α→γ):∀ {as:List α} {bs:List β},a0g R (as.map f) bs→a0g (fun a b=>R (f a) b) as bs
 | [],[],_=>trivial
 | _::_,_::_,h=>⟨h.1,a0g.of_map f h.2⟩
 | [],_::_,h=>h.elim
 | _::_,[],h=>h.elim
theorem a1r.all2{w:World}{S:Nat→Prop}:∀ {vs:List TV} {cs:List Value},a1r w S (vs.map TV.toD) cs↔a0g (fun v x=>Rd w S v.toD [x]) vs cs
 | [],[]=>by simp[a1r,a0g]
 | [],_::_=>by simp[a1r,a0g]
 | v::vs,[]=>by simp[a1r,a0g]
 | v::vs,x::cs=>by
  simp only[List.map_cons,a1r,a0g]
  constructor
  ·rintro⟨y,r,h1,h2,h3⟩
   simp only[List.cons.injEq] at h1
   obtain⟨rfl,rfl⟩:=h1
   exact⟨h2,a1r.all2.1 h3⟩
  ·rintro⟨h1,h2⟩
   exact⟨x,cs,rfl,h1,a1r.all2.2 h2⟩
structure a1p(X:Nat→Prop)(w w':World):Prop where
 os:w'.os=w.os
 tape:w'.tape=w.tape
 output:w'.output=w.output
 size:w.heap.size≤w'.heap.size
 block:∀ b,b<w.heap.size→¬ X b→w'.heap[b]?=w.heap[b]?
theorem a1p.refl(X:Nat→Prop)(w:World):a1p X w w:=⟨rfl,rfl,rfl,Nat.le_refl _,fun _ _ _=>rfl⟩
theorem a1p.trans{X Y:Nat→Prop}{a b c:World}(h:a1p X a b)(k:a1p Y b c)(hXY:∀ i,i<a.heap.size→Y i→X i):a1p X a c :=
 ⟨k.os.trans h.os,k.tape.trans h.tape,k.output.trans h.output,Nat.le_trans h.size k.size,
  fun i hi hx=>(k.block i (Nat.lt_of_lt_of_le hi h.size) (fun hy=>hx (hXY i hi hy))).trans (h.block i hi hx)⟩
structure Ctx where
 P:Program
 E:Env
 w0:World
 X:Nat→Prop
 S0:Nat→Prop
 R:Nat→Option Value
 Z:Nat→Prop
 RB:Nat→Option Nat
structure Gh where
 S:Nat→Prop
 η:Nat→Value
 φ:Nat→List Nat
def St(c:Ctx)(S:Nat→Prop)(b:Nat):Prop:=S b∨(b<c.w0.heap.size∧¬ c.X b∧¬ c.Z b)
def blk:Value→Option Nat
 | .pointer (some a)=>some a.block
 | .slice (some a) _ _=>some a.block
 | .map (some b)=>some b
 | _=>none
def RdV(w:World)(S:Nat→Prop)(v:TV)(x:Value):Prop :=
 match v with
 | ⟨.st s,y⟩=>∃ cs,x = .agg cs.toArray∧Rd w S (s.toD y) cs
 | v=>Rd w S v.toD [x]
def c5p(w:World)(S:Nat→Prop):Arg→Value→Prop
 | .val v,x=>RdV w S v x
 | .ref v,x=>∃ b o cs,x = .pointer (some ⟨b,o,none⟩)∧b<w.heap.size∧a1x w b o cs∧Rd w S v.toD cs
 | .fn f,x=>x = .func (.func f) #[] #[]
 | .clo _,_=>False
 | .own _,_=>False
 | .box _,_=>False
def c2p(w:World)(S:Nat→Prop):List TV→Value→Prop
 | [v],x=>RdV w S v x
 | vs,x=>∃ l,x = .tuple l.toArray∧a0g (RdV w S) vs l
def Gok(w:World)(S:Nat→Prop):Prop:=∀ g∈e4d,S g∧∃ m,w.cell? ⟨g,0,none⟩=some (.int .i64 m)
def SOk(w:World)(S:Nat→Prop):Prop:=(∀ b,S b→b<w.heap.size)∧Gok w S
theorem Gok.mono{w w':World}{S S':Nat→Prop}(h:Gok w S)(hS:∀ b,S b→S' b)(hw:∀ b,S b→w'.heap[b]?=w.heap[b]?):Gok w' S':=fun g hg=>by
 obtain⟨h1,m,h2⟩:=h g hg
 exact⟨hS g h1,m,(World.cell?_of_block (a:=⟨g,0,none⟩) (hw g h1)).trans h2⟩
def d1d(P:Program)(f:FuncId)(args:List Arg)(post:List TV→Prop):Prop :=
 ∀ (w:World) (S:Nat→Prop) (vals:List Value),SOk w S→a0g (c5p w S) args vals →
  Calls P f vals.toArray w fun e w'=>∃ x S' res,e = .returned x∧post res∧a1p (fun _=>False) w w'∧(∀ b,b<w.heap.size→(S' b↔S b))∧(∀ b,S' b→b<w'.heap.size)∧c2p w' S' res x
def a5p (P:Program) (f:FuncId):Prop:=∃ fn,P.funcs[f]?=some fn∧fn.body.isNone=false∧(fn.name == "runtime.NumGoroutine")=false
def c3n(P:Program)(f:FuncId)(caps:List Arg):(ps:List Ty)→(r:Ty)→FN ps r→List Arg→Prop
 | [],r,F,acc=>F.1→a5p P f∧d1d P f (acc++caps) (·=[⟨r,F.2⟩])
 | t::ts,r,F,acc=>∀ x,c3n P f caps ts r (F x) (acc++[.val ⟨t,x⟩])
def d3g(c:Ctx)(S:Nat→Prop)(w:World):Arg→Value→Prop
 | .val v,x=>RdV w S v x
 | .ref v,x=>∃ b o cs,x = .pointer (some ⟨b,o,none⟩)∧St c S b∧a1x w b o cs∧Rd w S v.toD cs
 | .fn f,x=>x = .func (.func f) #[] #[]
 | .clo _,_=>False
 | .own _,_=>False
 | .box _,_=>False
def C1(c:Ctx)(G:Gh)(lk:Nat→Option a0d)(w:World):AV→Value→Prop
 | .any,_=>True
 | .undf,x=>x=undef
 | .imm v,x=>v.τ.agg=false∧Rd w G.S v.toD [x]
 | .nil,x=>x = .slice none 0 0
 | .pimm v,x=>∃ b o cs,x = .pointer (some ⟨b,o,none⟩)∧St c G.S b∧a1x w b o cs∧Rd w G.S v.toD cs
 | .ptr id off,x=>∃ b,G.η id = .pointer (some ⟨b,0,none⟩)∧x = .pointer (some ⟨b,off,none⟩)∧a5k (lk id)=true
 | .row id,x=>x=G.η id∧b6z (lk id)=true∧∃ a n m,x = .slice a n m
 | .rptr id i off,x=>∃ b n cap e τ xs,G.η id = .slice (some ⟨b,0,none⟩) n cap∧lk id=some (.row e τ xs)∧i<xs.length∧x = .pointer (some ⟨b,i * τ.size+off,none⟩)
 | .fn f,x=>x = .func (.func f) #[] #[]
 | .tree id,x=>a1i (lk id)=true∧∃ l,G.η id = .tuple (x::l).toArray∧∃ a n m,x = .slice a n m
 | .sub id i off sz,x=>a1i (lk id)=true∧∃ a n cap l,G.η id = .tuple (.slice a n cap::l).toArray∧i<n∧l[i * sz+off]?=some x∧∃ a n m,x = .slice a n m
 | .tptr id i off sz,x=>a1i (lk id)=true∧∃ b n cap l,G.η id = .tuple (.slice (some ⟨b,0,none⟩) n cap::l).toArray∧i<n∧x = .pointer (some ⟨b,i * sz+off,none⟩)
 | .fun_ v,x=>∃ f caps l,x = .func (.func f) #[] l.toArray∧c3n c.P f caps v.ps v.r v.F []∧a0g (d3g c G.S w) caps l
 | .mp id,x=>x=G.η id∧c6m (lk id)=true∧∃ b,x = .map (some b)
 | .agg _,_=>False
 | .tup _,_=>False
 | .clo ..,_=>False
def TR(c:Ctx)(G:Gh)(lk:Nat→Option a0d)(w:World):AV→Value→Prop
 | .any,_=>True
 | .imm v,x=>RdV w G.S v x
 | .tree id,x=>C1 c G lk w (.tree id) x
 | .agg cs,x=>∃ l,x = .agg l.toArray∧a0g (C1 c G lk w) cs l
 | _,_=>False
def CR(c:Ctx)(G:Gh)(lk:Nat→Option a0d)(w:World):AV→Value→Prop
 | .imm v,x=>RdV w G.S v x
 | .agg cs,x=>∃ l,x = .agg l.toArray∧a0g (C1 c G lk w) cs l
 | v,x=>C1 c G lk w v x
def VR(c:Ctx)(G:Gh)(lk:Nat→Option a0d)(w:World):AV→Value→Prop
 | .imm v,x=>RdV w G.S v x
 | .agg cs,x=>∃ l,x = .agg l.toArray∧a0g (C1 c G lk w) cs l
 | .tup vs,x=>∃ l,x = .tuple l.toArray∧a0g (TR c G lk w) vs l
 | .clo f cs,x=>∃ l,x = .func (.func f) #[] l.toArray∧a0g (CR c G lk w) cs l
 | v,x=>C1 c G lk w v x
def OR(c:Ctx)(G:Gh)(lk:Nat→Option a0d)(w:World)(id:Nat):a0d→Prop
 | .box cs=>∃ b l t,G.η id = .pointer (some ⟨b,0,none⟩)∧w.heap[b]?=some (.cells l.toArray t (0,0))∧a0g (C1 c G lk w) cs l
 | .row e τ xs=>∃ l,w.ownsRow 0 e τ.size (G.η id) xs.length l∧RdL w G.S (xs.map τ.toD) l∧xs.length≤140737488355328
 | .tree τ xs=>True
 | .map m=>∃ b es clock,G.η id = .map (some b)∧w.heap[b]?=some (.map es clock)∧c5q m es
def a4l(w:World)(η:Value)(τ:Ty)(xs:List τ.den)(fp:List Nat):Prop :=
 ∃ v l a cap,η = .tuple (v::l).toArray∧v = .slice a xs.length cap∧xs.length≤cap∧cap≤maxLen∧xs.length≤140737488355328 ∧
  ((xs=[]∧(a=none∧cap=0)∧fp=[])∨∃ b f t,a=some ⟨b,0,none⟩∧fp=b::f∧w.heap[b]?=some (.cells l.toArray t (0,0))∧l.length=cap * τ.size∧a0x w (xs.map τ.toD) l f)
structure c5s(c:Ctx)(G:Gh)(lk:Nat→Option a0d)(w:World):Prop where
 tr:∀ id τ xs,lk id=some (.tree τ xs)→a4l w (G.η id) τ xs (G.φ id)
 nd:∀ id τ xs,lk id=some (.tree τ xs)→(G.φ id).Nodup
 pl:∀ id τ xs b,lk id=some (.tree τ xs)→b∈G.φ id→(c.w0.heap.size≤b∨c.X b)∧¬ G.S b∧b<w.heap.size∧∀ i o,lk i=some o→blk (G.η i)≠some b
 ap:∀ id id' τ τ' xs xs' b,lk id=some (.tree τ xs)→lk id'=some (.tree τ' xs')→b∈G.φ id→b∈G.φ id'→id=id'
def XGk(c:Ctx):Prop:=(∀ b,c.X b→b<c.w0.heap.size)∧∀ g∈e4d,c.S0 g∧¬ c.X g∧g<c.w0.heap.size∧∃ m,c.w0.cell? ⟨g,0,none⟩=some (.int .i64 m)
structure a0l(c:Ctx)(G:Gh)(sl:Nat→AV)(n:Nat)(lk:Nat→Option a0d)(a:Act)(w:World):Prop where
 defers:a.defers=[]
 size:a.tmps.size=n
 keep:a1p c.X c.w0 w
 xLt:XGk c
 sOld:∀ b,b<c.w0.heap.size→¬ c.X b→(G.S b↔c.S0 b)
 sX:∀ b,c.S0 b→G.S b
 sLt:∀ b,G.S b→b<w.heap.size
 slots:∀ i,VR c G lk w (sl i) (a.tmps.getD i undef)
 objs:∀ id o,lk id=some o→OR c G lk w id o
 place:∀ id o b,lk id=some o→blk (G.η id)=some b→(c.w0.heap.size≤b∨c.X b)∧¬ G.S b∧b<w.heap.size
 apart:∀ id id' o o' b,lk id=some o→lk id'=some o'→blk (G.η id)=some b→blk (G.η id')=some b→id=id'
 trees:c5s c G lk w
 root:∀ id v,c.R id=some v→a1i (lk id)=true→∃ l,G.η id = .tuple (v::l).toArray
 rng:∀ id v,c.R id=some v→50≤id∧id<100
 rootB:∀ id b,c.RB id=some b→a5k (lk id)=true→G.η id = .pointer (some ⟨b,0,none⟩)
 rngB:∀ id b,c.RB id=some b→400000≤id
theorem a0l.sOk{c:Ctx}{G:Gh}{sl:Nat→AV}{n:Nat}{lk:Nat→Option a0d}{a:Act}{w:World}(h:a0l c G sl n lk a w):SOk w G.S:=⟨h.sLt,fun g hg=>by
 obtain⟨h1,h2,h3,m,h4⟩:=h.xLt.2 g hg
 exact⟨h.sX g h1,m,(World.cell?_of_block (a:=⟨g,0,none⟩) (h.keep.block g h3 h2)).trans h4⟩⟩
theorem a0l.gokM{c:Ctx}{G:Gh}{sl:Nat→AV}{n:Nat}{lk:Nat→Option a0d}{a:Act}{w:World}(h:a0l c G sl n lk a w){fp:List Nat}(hn:∀ b∈fp,¬ G.S b):Gok w (fun b=>b<w.heap.size∧b∉fp) :=
 h.sOk.2.mono (fun b hb=>⟨h.sLt b hb,fun q=>hn b q hb⟩) fun _ _=>rfl
def a0c.sl(s:a0c)(i:Nat):AV:=s.slots.getD i .any
def Inv(c:Ctx)(G:Gh)(s:a0c)(a:Act)(w:World):Prop:=a0l c G s.sl s.slots.length s.look a w
theorem b5m{o:Option a0d}(h:b6z o=true):a1i o=false:=by
 match o,h with
 | some (.row ..),_=>rfl
theorem c9z{o:Option a0d}(h:c6m o=true):a1i o=false:=by
 match o,h with
 | some (.map _),_=>rfl
def a2p(o o':Option a0d):Prop :=
 (a5k o=true→a5k o'=true)∧(∀ e τ xs,o=some (.row e τ xs)→∃ e' xs',o'=some (.row e' τ xs')∧xs.length≤xs'.length)∧(a1i o=true→a1i o'=true)∧(c6m o=true→c6m o'=true)
theorem a2p.refl(o:Option a0d):a2p o o:=⟨id,fun e τ xs h=>⟨e,xs,h,Nat.le_refl _⟩,id,id⟩
theorem a2p.isRow{o o':Option a0d}(h:a2p o o')(hr:b6z o=true):YtmdefiphdgcijaaDoor.b6z o'=true:=by
 match o,hr with
 | some (.row e τ xs),_ =>
  obtain⟨e',xs',h1,_⟩:=h.2.1 e τ xs rfl
  rw[h1];rfl
section
variable {c:Ctx} {G G':Gh} {lk lk':Nat→Option a0d} {w w':World}
theorem RdV.mono{v:TV}{x:Value}(h:RdV w G.S v x)(hS:∀ b,G.S b→G'.S b)(hw:∀ b,G.S b→w'.heap[b]?=w.heap[b]?):RdV w' G'.S v x:=by
 obtain⟨τ,y⟩:=v
 cases τ with
 | st s =>
  obtain⟨cs,h1,h2⟩:=h
  exact⟨cs,h1,Rd.keep hS hw _ h2⟩
 | _=>exact Rd.keep hS hw _ h
theorem d3g.mono{S S':Nat→Prop}{v:Arg}{x:Value}(h:d3g c S w v x)(hS:∀ b,S b→S' b)(hw:∀ b,St c S b→w'.heap[b]?=w.heap[b]?):d3g c S' w' v x:=by
 cases v with
 | val v=>exact RdV.mono (G:=⟨S,fun _=>undef,fun _=>[]⟩) (G':=⟨S',fun _=>undef,fun _=>[]⟩) h hS (fun b hb=>hw b (.inl hb))
 | ref v =>
  obtain⟨b,o,cs,h1,h2,h3,h4⟩:=h
  exact⟨b,o,cs,h1,h2.imp (hS b) id,h3.keep (hw b h2),Rd.keep hS (fun b hb=>hw b (.inl hb)) _ h4⟩
 | fn f=>exact h
 | clo v=>exact h
 | own v=>exact h
 | box k=>exact h
theorem C1.mono{v:AV}{x:Value}(h:C1 c G lk w v x)(hk:∀ id,v.refs id=true→a2p (lk id) (lk' id)∧G'.η id=G.η id)
  (hS:∀ b,G.S b→G'.S b) (hw:∀ b,St c G.S b→w'.heap[b]?=w.heap[b]?):C1 c G' lk' w' v x:=by
 have hw':∀ b,G.S b→w'.heap[b]?=w.heap[b]?:=fun b hb=>hw b (.inl hb)
 cases v with
 | any=>trivial
 | undf=>exact h
 | imm v=>exact⟨h.1,Rd.keep hS hw' _ h.2⟩
 | nil=>exact h
 | pimm v =>
  obtain⟨b,o,cs,h1,h2,h3,h4⟩:=h
  exact⟨b,o,cs,h1,h2.imp (hS b) id,h3.keep (hw b h2),Rd.keep hS hw' _ h4⟩
 | ptr id off =>
  obtain⟨b,h1,h2,h3⟩:=h
  obtain⟨k1,k2⟩:=hk id (by simp[AV.refs])
  exact⟨b,k2.trans h1,h2,k1.1 h3⟩
 | row id =>
  obtain⟨h1,h2,h3⟩:=h
  obtain⟨k1,k2⟩:=hk id (by simp[AV.refs])
  exact⟨h1.trans k2.symm,k1.isRow h2,h3⟩
 | rptr id i off =>
  obtain⟨b,n,cap,e,τ,xs,h1,h2,h3,h4⟩:=h
  obtain⟨k1,k2⟩:=hk id (by simp[AV.refs])
  obtain⟨e',xs',k3,k4⟩:=k1.2.1 e τ xs h2
  exact⟨b,n,cap,e',τ,xs',k2.trans h1,k3,by omega,h4⟩
 | fn f=>exact h
 | tree id =>
  obtain⟨h1,l,h2,h3⟩:=h
  obtain⟨k1,k2⟩:=hk id (by simp[AV.refs])
  exact⟨k1.2.2.1 h1,l,k2.trans h2,h3⟩
 | sub id i off sz =>
  obtain⟨h1,a,n,cap,l,h2,h3⟩:=h
  obtain⟨k1,k2⟩:=hk id (by simp[AV.refs])
  exact⟨k1.2.2.1 h1,a,n,cap,l,k2.trans h2,h3⟩
 | tptr id i off sz =>
  obtain⟨h1,b,n,cap,l,h2,h3⟩:=h
  obtain⟨k1,k2⟩:=hk id (by simp[AV.refs])
  exact⟨k1.2.2.1 h1,b,n,cap,l,k2.trans h2,h3⟩
 | fun_ v =>
  obtain⟨f,caps,l,h1,h2,h3⟩:=h
  exact⟨f,caps,l,h1,h2,h3.imp fun u y _ hy=>hy.mono hS hw⟩
 | mp id =>
  obtain⟨h1,h2,h3⟩:=h
  obtain⟨k1,k2⟩:=hk id (by simp[AV.refs])
  exact⟨h1.trans k2.symm,k1.2.2.2 h2,h3⟩
 | agg cs=>exact h
 | tup vs=>exact h
 | clo f cs=>exact h
theorem a9o{id:Nat}:∀ {cs:List AV} {v:AV},v∈cs→v.refs id=true→AV.refsL id cs=true
 | u::r,v,hm,hv=>by
  simp only[AV.refsL]
  rcases List.mem_cons.1 hm with rfl|h
  ·rw[hv]
  ·split
   ·rfl
   ·exact a9o h hv
theorem CR.mono{v:AV}{x:Value}(h:CR c G lk w v x)(hk:∀ id,v.refs id=true→a2p (lk id) (lk' id)∧G'.η id=G.η id)
  (hS:∀ b,G.S b→G'.S b) (hw:∀ b,St c G.S b→w'.heap[b]?=w.heap[b]?):CR c G' lk' w' v x:=by
 cases v with
 | imm v=>exact RdV.mono h hS (fun b hb=>hw b (.inl hb))
 | agg cs =>
  obtain⟨l,h1,h2⟩:=h
  exact⟨l,h1,h2.imp fun u y hu hy=>hy.mono (fun id hid=>hk id (by simp only[AV.refs];exact a9o hu hid)) hS hw⟩
 | any=>trivial
 | undf=>exact h
 | nil=>exact C1.mono (v := .nil) h hk hS hw
 | pimm v=>exact C1.mono (v := .pimm v) h hk hS hw
 | ptr i o=>exact C1.mono (v := .ptr i o) h hk hS hw
 | row i=>exact C1.mono (v := .row i) h hk hS hw
 | rptr i k o=>exact C1.mono (v := .rptr i k o) h hk hS hw
 | fn f=>exact C1.mono (v := .fn f) h hk hS hw
 | tree i=>exact C1.mono (v := .tree i) h hk hS hw
 | sub i k o z=>exact C1.mono (v := .sub i k o z) h hk hS hw
 | tptr i k o z=>exact C1.mono (v := .tptr i k o z) h hk hS hw
 | fun_ v=>exact C1.mono (v := .fun_ v) h hk hS hw
 | mp i=>exact C1.mono (v := .mp i) h hk hS hw
 | tup _=>exact h
 | clo _ _=>exact h
theorem VR.mono{v:AV}{x:Value}(h:VR c G lk w v x)(hk:∀ id,v.refs id=true→a2p (lk id) (lk' id)∧G'.η id=G.η id)
  (hS:∀ b,G.S b→G'.S b) (hw:∀ b,St c G.S b→w'.heap[b]?=w.heap[b]?):VR c G' lk' w' v x:=by
 have hw':∀ b,G.S b→w'.heap[b]?=w.heap[b]?:=fun b hb=>hw b (.inl hb)
 cases v with
 | imm v=>exact RdV.mono h hS hw'
 | agg cs =>
  obtain⟨l,h1,h2⟩:=h
  exact⟨l,h1,h2.imp fun u y hu hy=>hy.mono (fun id hid=>hk id (by simp only[AV.refs];exact a9o hu hid)) hS hw⟩
 | tup vs =>
  obtain⟨l,h1,h2⟩:=h
  refine⟨l,h1,h2.imp fun u y hu hy=>?_⟩
  have hk':∀ id,u.refs id=true→a2p (lk id) (lk' id)∧G'.η id=G.η id:=fun id hid=>hk id (by simp only[AV.refs];exact a9o hu hid)
  cases u with
  | any=>trivial
  | imm v=>exact RdV.mono hy hS hw'
  | tree i=>exact C1.mono (v := .tree i) hy hk' hS hw
  | agg cs =>
   obtain⟨l,h1,h2⟩:=hy
   exact⟨l,h1,h2.imp fun u y hu hy=>hy.mono (fun id hid=>hk' id (by simp only[AV.refs];exact a9o hu hid)) hS hw⟩
  | _=>exact hy.elim
 | undf=>trivial
 | any=>trivial
 | nil=>exact C1.mono (v := .nil) h hk hS hw
 | pimm v=>exact C1.mono (v := .pimm v) h hk hS hw
 | ptr i o=>exact C1.mono (v := .ptr i o) h hk hS hw
 | row i=>exact C1.mono (v := .row i) h hk hS hw
 | rptr i k o=>exact C1.mono (v := .rptr i k o) h hk hS hw
 | fn f=>exact C1.mono (v := .fn f) h hk hS hw
 | tree i=>exact C1.mono (v := .tree i) h hk hS hw
 | sub i k o z=>exact C1.mono (v := .sub i k o z) h hk hS hw
 | tptr i k o z=>exact C1.mono (v := .tptr i k o z) h hk hS hw
 | fun_ v=>exact C1.mono (v := .fun_ v) h hk hS hw
 | mp i=>exact C1.mono (v := .mp i) h hk hS hw
 | clo f cs =>
  obtain⟨l,h1,h2⟩:=h
  exact⟨l,h1,h2.imp fun u y hu hy=>hy.mono (fun id hid=>hk id (by simp only[AV.refs];exact a9o hu hid)) hS hw⟩
def a0d.refs(id:Nat):a0d→Bool
 | .box cs=>AV.refsL id cs
 | .row .. => false
 | .tree .. => false
 | .map .. => false
theorem b5j{v:Value}{e:TypeId}{size n:Nat}{l:List Value}(h:w.ownsRow 0 e size v n l):v.ownBlock=blk v:=by
 rcases h.2 with ⟨rfl,_⟩|⟨g,cap,cur,rfl,_⟩<;>rfl
theorem d0k{e:TypeId}{size n:Nat}{v:Value}{l:List Value}(h:w.ownsRow 0 e size v n l)(hb:∀ b,blk v=some b→w'.heap[b]?=w.heap[b]?):w'.ownsRow 0 e size v n l:=by
 refine⟨h.1,h.2.imp id ?_⟩
 rintro⟨g,cap,cur,rfl,h1,h2,h3⟩
 exact⟨g,cap,cur,rfl,h1,by rw[hb g rfl];exact h2,h3⟩
theorem OR.mono{id:Nat}{o:a0d}(h:OR c G lk w id o)(hη:G'.η id=G.η id)(hb:∀ b,blk (G.η id)=some b→w'.heap[b]?=w.heap[b]?)
  (hk:∀ j,o.refs j=true→a2p (lk j) (lk' j)∧G'.η j=G.η j) (hS:∀ b,G.S b→G'.S b) (hw:∀ b,St c G.S b→w'.heap[b]?=w.heap[b]?):OR c G' lk' w' id o:=by
 cases o with
 | box cs =>
  obtain⟨b,l,t,h1,h2,h3⟩:=h
  refine⟨b,l,t,hη.trans h1,?_,h3.imp fun u y hu hy=>hy.mono (fun j hj=>hk j (a9o hu hj)) hS hw⟩
  rw[hb b (by rw[h1];rfl)];exact h2
 | row e τ xs =>
  obtain⟨l,h1,h2,h3⟩:=h
  refine⟨l,?_,RdL.keep hS (fun b hb=>hw b (.inl hb)) _ h2,h3⟩
  rw[hη]
  exact d0k h1 hb
 | tree τ xs=>trivial
 | map m =>
  obtain⟨b,es,clock,h1,h2,h3⟩:=h
  exact⟨b,es,clock,hη.trans h1,by rw[hb b (by rw[h1];rfl)];exact h2,h3⟩
end
theorem a4l.keep{w w':World}{η:Value}{τ:Ty}{xs:List τ.den}{fp:List Nat}(h:a4l w η τ xs fp)(hw:∀ b∈fp,w'.heap[b]?=w.heap[b]?):a4l w' η τ xs fp:=by
 obtain⟨v,l,a,cap,h1,h2,h3,h4,h5,h6⟩:=h
 refine⟨v,l,a,cap,h1,h2,h3,h4,h5,h6.imp id ?_⟩
 rintro⟨b,f,t,k1,rfl,k2,k0,k3⟩
 exact⟨b,f,t,k1,rfl,by rw[hw b (by simp)];exact k2,k0,a0x.keep _ k3 fun b hb=>hw b (by simp[hb])⟩
theorem a0l.world{c:Ctx}{G:Gh}{sl:Nat→AV}{n:Nat}{lk:Nat→Option a0d}{a:Act}{w w':World}{S':Nat→Prop}(h:a0l c G sl n lk a w)
  (hkeep:a1p (fun b=>c.w0.heap.size≤b∨c.X b) w w') (hS:∀ b,G.S b→S' b) (hOld:∀ b,b<w.heap.size→(S' b↔G.S b)) (hX:∀ b,c.S0 b→S' b) (hLt:∀ b,S' b→b<w'.heap.size)
  (hw:∀ b,St c G.S b→w'.heap[b]?=w.heap[b]?) (hobj:∀ id o b,lk id=some o→blk (G.η id)=some b→w'.heap[b]?=w.heap[b]?) (htr:∀ id τ xs b,lk id=some (.tree τ xs)→b∈G.φ id→w'.heap[b]?=w.heap[b]?) :
  a0l c ⟨S',G.η,G.φ⟩ sl n lk a w' where
 defers:=h.defers
 size:=h.size
 keep:=h.keep.trans hkeep fun i hi hy=>hy.elim (fun h=>by omega) id
 xLt:=h.xLt
 sOld b hb hx:=(hOld b (Nat.lt_of_lt_of_le hb h.keep.size)).trans (h.sOld b hb hx)
 sX:=hX
 sLt:=hLt
 slots i:=(h.slots i).mono (fun id _=>⟨a2p.refl _,rfl⟩) hS hw
 objs id o ho:=(h.objs id o ho).mono rfl (fun b hb=>hobj id o b ho hb) (fun j _=>⟨a2p.refl _,rfl⟩) hS hw
 place id o b ho hb:=by
  obtain⟨h1,h2,h3⟩:=h.place id o b ho hb
  exact⟨h1,fun hs=>h2 ((hOld b h3).1 hs),Nat.lt_of_lt_of_le h3 hkeep.size⟩
 apart:=h.apart
 trees:={
  tr:=fun id τ xs ht=>(h.trees.tr id τ xs ht).keep fun b hb=>htr id τ xs b ht hb
  nd:=h.trees.nd
  pl:=fun id τ xs b ht hb=>by
   obtain⟨h1,h2,h3,h4⟩:=h.trees.pl id τ xs b ht hb
   exact⟨h1,fun hs=>h2 ((hOld b h3).1 hs),Nat.lt_of_lt_of_le h3 hkeep.size,h4⟩
  ap:=h.trees.ap }
 root:=h.root
 rng:=h.rng
 rootB:=h.rootB
 rngB:=h.rngB
theorem a0l.drew{c:Ctx}{G:Gh}{sl:Nat→AV}{n:Nat}{lk:Nat→Option a0d}{a:Act}{w:World}(h:a0l c G sl n lk a w):a0l c G sl n lk a w.drew :=
 h.world (S':=G.S) ⟨rfl,rfl,rfl,Nat.le_refl _,fun _ _ _=>rfl⟩ (fun _ h=>h) (fun _ _=>Iff.rfl) h.sX h.sLt (fun _ _=>rfl) (fun _ _ _ _ _=>rfl) (fun _ _ _ _ _ _=>rfl)
def a5y(n:Nat)(sl:Nat→AV)(d:Option Nat)(v:AV)(i:Nat):AV:=if d=some i∧i<n then v else sl i
theorem a2x(a:Act)(d:Option Nat)(x:Value)(i:Nat):(a.put d x).tmps.getD i undef=if d=some i∧i<a.tmps.size then x else a.tmps.getD i undef:=by
 cases d with
 | none=>simp[Act.put]
 | some d =>
  simp only[Act.put,Option.some.injEq]
  by_cases h:d=i
  ·subst h
   by_cases hl:d<a.tmps.size
   ·simp[hl,Array.getD_eq_getD_getElem?]
   ·simp[hl,Array.getD_eq_getD_getElem?,Array.setIfInBounds]
  ·simp[h,Array.getD_eq_getD_getElem?,Array.getElem?_setIfInBounds]
theorem a5i(a:Act)(d:Option Nat)(x:Value):(a.put d x).tmps.size=a.tmps.size:=by cases d<;>simp[Act.put]
theorem a7u(a:Act)(d:Option Nat)(x:Value):(a.put d x).defers=a.defers:=by cases d<;>rfl
theorem a0l.put{c:Ctx}{G:Gh}{sl:Nat→AV}{n:Nat}{lk:Nat→Option a0d}{a:Act}{w:World}(h:a0l c G sl n lk a w){d:Option Nat}{v:AV}{x:Value}(hv:VR c G lk w v x) :
  a0l c G (a5y n sl d v) n lk (a.put d x) w where
 defers:=(a7u _ _ _).trans h.defers
 size:=(a5i _ _ _).trans h.size
 keep:=h.keep
 xLt:=h.xLt
 sOld:=h.sOld
 sX:=h.sX
 sLt:=h.sLt
 slots i:=by
  rw[a2x,h.size,a5y]
  split
  ·exact hv
  ·exact h.slots i
 objs:=h.objs
 place:=h.place
 apart:=h.apart
 trees:=h.trees
 root:=h.root
 rng:=h.rng
 rootB:=h.rootB
 rngB:=h.rngB
theorem a0l.forget{c:Ctx}{G:Gh}{sl sl':Nat→AV}{n:Nat}{lk:Nat→Option a0d}{a:Act}{w:World}(h:a0l c G sl n lk a w)(hs:∀ i,sl' i=sl i∨sl' i = .any):a0l c G sl' n lk a w where
 defers:=h.defers
 size:=h.size
 keep:=h.keep
 xLt:=h.xLt
 sOld:=h.sOld
 sX:=h.sX
 sLt:=h.sLt
 slots i:=by
  rcases hs i with e|e
  ·rw[e];exact h.slots i
  ·rw[e];trivial
 objs:=h.objs
 place:=h.place
 apart:=h.apart
 trees:=h.trees
 root:=h.root
 rng:=h.rng
 rootB:=h.rootB
 rngB:=h.rngB
theorem e2z(id:Nat)(v:AV):v.kill id=v∨v.kill id = .any:=by unfold AV.kill;split<;>simp
theorem c1x(id:Nat)(v:AV):(v.kill id).refs id=false:=by
 unfold AV.kill
 split
 ·rfl
 ·assumption
theorem C1.kill{c:Ctx}{G:Gh}{lk:Nat→Option a0d}{w:World}{v:AV}{x:Value}(h:C1 c G lk w v x)(id:Nat):C1 c G lk w (v.kill id) x:=by
 rcases e2z id v with e|e
 ·rw[e];exact h
 ·rw[e];trivial
theorem c7b(id:Nat):∀ cs:List AV,AV.refsL id (cs.map (AV.kill id))=false
 | []=>rfl
 | v::r=>by simp only[List.map_cons,AV.refsL,c1x];exact c7b id r
theorem OR.kill{c:Ctx}{G:Gh}{lk:Nat→Option a0d}{w:World}{i:Nat}{o:a0d}(h:OR c G lk w i o)(id:Nat):OR c G lk w i (o.kill id):=by
 cases o with
 | box cs =>
  obtain⟨b,l,t,h1,h2,h3⟩:=h
  exact⟨b,l,t,h1,h2,a0g.map_left _ (h3.imp fun u y _ hy=>hy.kill id)⟩
 | row e τ xs=>exact h
 | tree τ xs=>exact h
 | map m=>exact h
theorem d0s(id:Nat)(o:Option a0d):a2p o (o.map (a0d.kill id)):=by
 refine⟨fun h=>?_,fun e τ xs h=>⟨e,xs,by rw[h];rfl,Nat.le_refl _⟩,fun h=>?_,fun h=>?_⟩
 ·match o,h with
  | some (.box cs),_=>rfl
 ·match o,h with
  | some (.tree τ xs),_=>rfl
 ·match o,h with
  | some (.map m),_=>rfl
theorem a7r{id:Nat}{o:Option a0d}{τ:Ty}{xs:List τ.den}(h:o.map (a0d.kill id)=some (.tree τ xs)):o=some (.tree τ xs):=by
 match o,h with
 | some (.tree τ' xs'),h=>exact h
 | some (.box _),h=>cases h
 | some (.row ..),h=>cases h
theorem c5s.sub{c:Ctx}{G:Gh}{lk lk':Nat→Option a0d}{w:World}(h:c5s c G lk w)(ht:∀ id τ xs,lk' id=some (.tree τ xs)→lk id=some (.tree τ xs))(ho:∀ i o,lk' i=some o→∃ o',lk i=some o'):c5s c G lk' w where
 tr id τ xs k:=h.tr id τ xs (ht id τ xs k)
 nd id τ xs k:=h.nd id τ xs (ht id τ xs k)
 pl id τ xs b k hb:=by
  obtain⟨h1,h2,h3,h4⟩:=h.pl id τ xs b (ht id τ xs k) hb
  exact⟨h1,h2,h3,fun i o hi=>(ho i o hi).elim fun o' ho'=>h4 i o' ho'⟩
 ap id id' τ τ' xs xs' b k k':=h.ap id id' τ τ' xs xs' b (ht id τ xs k) (ht id' τ' xs' k')
theorem a0l.sweep{c:Ctx}{G:Gh}{sl:Nat→AV}{n:Nat}{lk:Nat→Option a0d}{a:Act}{w:World}(h:a0l c G sl n lk a w)(id:Nat) :
  a0l c G (fun i=>(sl i).kill id) n (fun i=>(lk i).map (a0d.kill id)) a w:=by
 have h1:a0l c G (fun i=>(sl i).kill id) n lk a w:=h.forget fun i=>e2z id (sl i)
 exact {
  defers:=h1.defers,size:=h1.size,keep:=h1.keep,xLt:=h1.xLt,sOld:=h1.sOld,sX:=h1.sX,sLt:=h1.sLt
  slots:=fun i=>(h1.slots i).mono (fun j _=>⟨d0s id _,rfl⟩) (fun _ h=>h) (fun _ _=>rfl)
  objs:=fun i o ho=>by
   rw[Option.map_eq_some_iff] at ho
   obtain⟨o',ho',rfl⟩:=ho
   exact ((h1.objs i o' ho').kill id).mono rfl (fun _ _=>rfl) (fun j _=>⟨d0s id _,rfl⟩) (fun _ h=>h) (fun _ _=>rfl)
  place:=fun i o b ho hb=>by
   rw[Option.map_eq_some_iff] at ho
   obtain⟨o',ho',rfl⟩:=ho
   exact h1.place i o' b ho' hb
  apart:=fun i j o o' b ho ho' hb hb'=>by
   rw[Option.map_eq_some_iff] at ho ho'
   obtain⟨p,hp,rfl⟩:=ho
   obtain⟨q,hq,rfl⟩:=ho'
   exact h1.apart i j p q b hp hq hb hb'
  trees:=h1.trees.sub (fun i τ xs k=>a7r k) (fun i o k=>by
   rw[Option.map_eq_some_iff] at k
   obtain⟨p,hp,_⟩:=k
   exact⟨p,hp⟩)
  root:=fun i v hr ht=>h1.root i v hr (by
   match hl:lk i,ht with
   | some (.tree ..),_=>rfl
   | some (.box _),ht=>simp[hl,a0d.kill,a1i] at ht
   | some (.row ..),ht=>simp[hl,a0d.kill,a1i] at ht
   | none,ht=>simp[hl,a1i] at ht)
  rng:=h1.rng
  rootB:=fun i v hr ht=>h1.rootB i v hr (by
   match hl:lk i,ht with
   | some (.box _),_=>rfl
   | some (.tree ..),ht=>simp[hl,a0d.kill,a5k] at ht
   | some (.row ..),ht=>simp[hl,a0d.kill,a5k] at ht
   | none,ht=>simp[hl,a5k] at ht)
  rngB:=h1.rngB }
theorem a0l.dropId{c:Ctx}{G:Gh}{sl:Nat→AV}{n:Nat}{lk:Nat→Option a0d}{a:Act}{w:World}(h:a0l c G sl n lk a w)(id:Nat)
  (hs:∀ i,(sl i).refs id=false) (ho:∀ i o,lk i=some o→i≠id→o.refs id=false):a0l c G sl n (fun i=>if i=id then none else lk i) a w:=by
 have hsame:∀ j,j≠id→a2p (lk j) ((fun i=>if i=id then none else lk i) j):=fun j hj=>by simp only[if_neg hj];exact a2p.refl _
 exact {
  defers:=h.defers,size:=h.size,keep:=h.keep,xLt:=h.xLt,sOld:=h.sOld,sX:=h.sX,sLt:=h.sLt
  slots:=fun i=>(h.slots i).mono (fun j hj=>⟨hsame j (fun e=>by subst e;rw[hs i] at hj;cases hj),rfl⟩) (fun _ h=>h) (fun _ _=>rfl)
  objs:=fun i o hio=>by
   by_cases hi:i=id
   ·simp[hi] at hio
   ·simp only[if_neg hi] at hio
    exact (h.objs i o hio).mono rfl (fun _ _=>rfl) (fun j hj=>⟨hsame j (fun e=>by subst e;rw[ho i o hio hi] at hj;cases hj),rfl⟩) (fun _ h=>h) (fun _ _=>rfl)
  place:=fun i o b hio hb=>by
   by_cases hi:i=id
   ·simp[hi] at hio
   ·simp only[if_neg hi] at hio
    exact h.place i o b hio hb
  apart:=fun i j o o' b hio hjo hb hb'=>by
   by_cases hi:i=id
   ·simp[hi] at hio
   ·by_cases hj:j=id
    ·simp[hj] at hjo
    ·simp only[if_neg hi] at hio
     simp only[if_neg hj] at hjo
     exact h.apart i j o o' b hio hjo hb hb'
  trees:=h.trees.sub (fun i τ xs k=>by
   by_cases hi:i=id
   ·simp[hi] at k
   ·simpa only[if_neg hi] using k) (fun i o k=>by
   by_cases hi:i=id
   ·simp[hi] at k
   ·exact⟨o,by simpa only[if_neg hi] using k⟩)
  root:=fun i v hr ht=>h.root i v hr (by
   by_cases hi:i=id
   ·simp[hi,a1i] at ht
   ·simpa only[if_neg hi] using ht)
  rng:=h.rng
  rootB:=fun i v hr ht=>h.rootB i v hr (by
   by_cases hi:i=id
   ·simp[hi,a5k] at ht
   ·simpa only[if_neg hi] using ht)
  rngB:=h.rngB }
theorem a0l.newObj{c:Ctx}{G:Gh}{sl:Nat→AV}{n:Nat}{lk:Nat→Option a0d}{a:Act}{w:World}(h:a0l c G sl n lk a w)(id:Nat)(o:a0d)(x:Value)
  (hid:lk id=none) (hs:∀ i,(sl i).refs id=false) (ho:∀ i o,lk i=some o→o.refs id=false) (hor:o.refs id=false)
  (hnew:OR c ⟨G.S,fun i=>if i=id then x else G.η i,G.φ⟩ (fun i=>if i=id then some o else lk i) w id o)
  (hnt:a1i (some o)=false) (hlt:a5k (some o)=false∨id<400000) (hblk:∀ b,blk x=some b→(c.w0.heap.size≤b∨c.X b)∧¬ G.S b∧b<w.heap.size∧(∀ i o',lk i=some o'→blk (G.η i)≠some b)∧∀ j τ xs,lk j=some (.tree τ xs)→b∉G.φ j) :
  a0l c ⟨G.S,fun i=>if i=id then x else G.η i,G.φ⟩ sl n (fun i=>if i=id then some o else lk i) a w:=by
 have hsame:∀ j,j≠id→a2p (lk j) ((fun i=>if i=id then some o else lk i) j)∧(if j=id then x else G.η j)=G.η j:=fun j hj=>by simp only[if_neg hj];exact⟨a2p.refl _,trivial⟩
 exact {
  defers:=h.defers,size:=h.size,keep:=h.keep,xLt:=h.xLt,sOld:=h.sOld,sX:=h.sX,sLt:=h.sLt
  slots:=fun i=>(h.slots i).mono (fun j hj=>hsame j (fun e=>by subst e;rw[hs i] at hj;cases hj)) (fun _ h=>h) (fun _ _=>rfl)
  objs:=fun i o' hio=>by
   by_cases hi:i=id
   ·subst hi
    simp only[if_true,Option.some.injEq] at hio
    subst hio
    exact hnew
   ·simp only[if_neg hi] at hio
    exact (h.objs i o' hio).mono (by simp only[if_neg hi]) (fun _ _=>rfl) (fun j hj=>hsame j (fun e=>by subst e;rw[ho i o' hio] at hj;cases hj)) (fun _ h=>h) (fun _ _=>rfl)
  place:=fun i o' b hio hb=>by
   by_cases hi:i=id
   ·simp only[if_pos hi] at hb
    obtain⟨h1,h2,h3,_⟩:=hblk b hb
    exact⟨h1,h2,h3⟩
   ·simp only[if_neg hi] at hio hb
    exact h.place i o' b hio hb
  apart:=fun i j o1 o2 b hio hjo hb hb'=>by
   by_cases hi:i=id
   ·by_cases hj:j=id
    ·rw[hi,hj]
    ·simp only[if_neg hj] at hjo hb'
     simp only[if_pos hi] at hb
     exact absurd hb' ((hblk b hb).2.2.2.1 j o2 hjo)
   ·by_cases hj:j=id
    ·simp only[if_neg hi] at hio hb
     simp only[if_pos hj] at hb'
     exact absurd hb ((hblk b hb').2.2.2.1 i o1 hio)
    ·simp only[if_neg hi] at hio hb
     simp only[if_neg hj] at hjo hb'
     exact h.apart i j o1 o2 b hio hjo hb hb'
  trees:=by
   have hold:∀ j τ xs,(if j=id then some o else lk j)=some (.tree τ xs)→j≠id∧lk j=some (.tree τ xs):=fun j τ xs k=>by
    by_cases hj:j=id
    ·rw[if_pos hj] at k
     cases k
     cases hnt
    ·rw[if_neg hj] at k
     exact⟨hj,k⟩
   exact {
    tr:=fun j τ xs k=>by
     obtain⟨h1,h2⟩:=hold j τ xs k
     simp only[if_neg h1]
     exact h.trees.tr j τ xs h2
    nd:=fun j τ xs k=>h.trees.nd j τ xs (hold j τ xs k).2
    pl:=fun j τ xs b k hb=>by
     obtain⟨h1,h2,h3,h4⟩:=h.trees.pl j τ xs b (hold j τ xs k).2 hb
     refine⟨h1,h2,h3,fun i p hip=>?_⟩
     by_cases hi:i=id
     ·simp only[if_pos hi]
      exact fun e=>(hblk b e).2.2.2.2 j τ xs (hold j τ xs k).2 hb
     ·simp only[if_neg hi] at hip ⊢
      exact h4 i p hip
    ap:=fun j j' τ τ' xs xs' b k k'=>h.trees.ap j j' τ τ' xs xs' b (hold j τ xs k).2 (hold j' τ' xs' k').2 }
  root:=fun i v hr ht=>by
   by_cases hi:i=id
   ·simp only[if_pos hi] at ht;rw[hnt] at ht;cases ht
   ·simp only[if_neg hi] at ht ⊢;exact h.root i v hr ht
  rng:=h.rng
  rootB:=fun i v hr ht=>by
   by_cases hi:i=id
   ·subst hi
    rcases hlt with hlt|hlt
    ·simp only[if_true] at ht
     rw[hlt] at ht
     cases ht
    ·have:=h.rngB i v hr;omega
   ·simp only[if_neg hi] at ht ⊢;exact h.rootB i v hr ht
  rngB:=h.rngB }
theorem a0l.modObj{c:Ctx}{G:Gh}{sl:Nat→AV}{n:Nat}{lk:Nat→Option a0d}{a:Act}{w w':World}(h:a0l c G sl n lk a w)(id:Nat)(o o':a0d)(b:Nat)(hid:lk id=some o)(hb:blk (G.η id)=some b)
  (hsame:a2p (some o) (some o')) (hnt:a1i (some o')=false) (hw:∀ k,k≠b→w'.heap[k]?=w.heap[k]?) (hos:w'.os=w.os) (htape:w'.tape=w.tape) (hout:w'.output=w.output) (hsize:w'.heap.size=w.heap.size)
  (hnew:OR c G (fun i=>if i=id then some o' else lk i) w' id o'):a0l c G sl n (fun i=>if i=id then some o' else lk i) a w':=by
 obtain⟨hp1,hp2,hp3⟩:=h.place id o b hid hb
 have hst:∀ k,St c G.S k→w'.heap[k]?=w.heap[k]?:=fun k hk=>hw k fun e=>by
  subst e
  rcases hk with hk|hk
  ·exact hp2 hk
  ·exact hp1.elim (fun q=>by omega) hk.2.1
 have hs:∀ j,a2p (lk j) ((fun i=>if i=id then some o' else lk i) j):=fun j=>by
  by_cases hj:j=id
  ·subst hj;simp only[if_true];rw[hid];exact hsame
  ·simp only[if_neg hj];exact a2p.refl _
 exact {
  defers:=h.defers,size:=h.size
  keep:=h.keep.trans (Y:=fun k=>c.w0.heap.size≤k∨c.X k) ⟨hos,htape,hout,Nat.le_of_eq hsize.symm,fun k _ hx=>hw k fun e=>by subst e;exact hx hp1⟩ fun i hi hy=>hy.elim (fun h=>by omega) (fun h=>h)
  xLt:=h.xLt,sOld:=h.sOld,sX:=h.sX
  sLt:=fun k hk=>by rw[hsize];exact h.sLt k hk
  slots:=fun i=>(h.slots i).mono (fun j _=>⟨hs j,rfl⟩) (fun _ h=>h) hst
  objs:=fun i p hp=>by
   by_cases hi:i=id
   ·subst hi
    simp only[if_true,Option.some.injEq] at hp
    subst hp
    exact hnew
   ·simp only[if_neg hi] at hp
    exact (h.objs i p hp).mono rfl (fun k hk=>hw k fun e=>by subst e;exact hi (h.apart i id p o _ hp hid hk hb)) (fun j _=>⟨hs j,rfl⟩) (fun _ h=>h) hst
  place:=fun i p k hp hk=>by
   rw[hsize]
   by_cases hi:i=id
   ·subst hi;exact h.place i o k hid hk
   ·simp only[if_neg hi] at hp
    exact h.place i p k hp hk
  apart:=fun i j p q k hp hq hk hk'=>by
   by_cases hi:i=id
   ·by_cases hj:j=id
    ·rw[hi,hj]
    ·simp only[if_neg hj] at hq
     rw[hi] at hk ⊢
     exact h.apart id j o q k hid hq hk hk'
   ·simp only[if_neg hi] at hp
    by_cases hj:j=id
    ·rw[hj] at hk' ⊢
     exact h.apart i id p o k hp hid hk hk'
    ·simp only[if_neg hj] at hq
     exact h.apart i j p q k hp hq hk hk'
  trees:=by
   have hold:∀ j τ xs,(if j=id then some o' else lk j)=some (.tree τ xs)→lk j=some (.tree τ xs):=fun j τ xs k=>by
    by_cases hj:j=id
    ·rw[if_pos hj] at k
     cases k
     cases hnt
    ·rwa [if_neg hj] at k
   exact {
    tr:=fun j τ xs k=>(h.trees.tr j τ xs (hold j τ xs k)).keep fun k' hk'=>hw k' fun e=>by
     subst e
     exact (h.trees.pl j τ xs _ (hold j τ xs k) hk').2.2.2 id o hid hb
    nd:=fun j τ xs k=>h.trees.nd j τ xs (hold j τ xs k)
    pl:=fun j τ xs b' k hb'=>by
     obtain⟨h1,h2,h3,h4⟩:=h.trees.pl j τ xs b' (hold j τ xs k) hb'
     refine⟨h1,h2,by rw[hsize];exact h3,fun i p hip=>?_⟩
     by_cases hi:i=id
     ·rw[hi];exact h4 id o hid
     ·rw[if_neg hi] at hip
      exact h4 i p hip
    ap:=fun j j' τ τ' xs xs' b' k k'=>h.trees.ap j j' τ τ' xs xs' b' (hold j τ xs k) (hold j' τ' xs' k') }
  root:=fun i v hr ht=>by
   by_cases hi:i=id
   ·simp only[if_pos hi] at ht;rw[hnt] at ht;cases ht
   ·simp only[if_neg hi] at ht;exact h.root i v hr ht
  rng:=h.rng
  rootB:=fun i v hr ht=>by
   by_cases hi:i=id
   ·subst hi
    simp only[if_true] at ht
    refine h.rootB i v hr ?_
    rw[hid]
    cases o with
    | box cs=>rfl
    | row e τ xs=>obtain⟨e',xs',q,_⟩:=hsame.2.1 e τ xs rfl;rw[q] at ht;cases ht
    | tree τ xs=>have h3:a1i (some o')=true:=hsame.2.2.1 rfl;rw[hnt] at h3;cases h3
    | map m =>
     obtain⟨b1,_,_,k1,_⟩:=h.objs i _ hid
     match o',ht with
     | .box cs,_ =>
      obtain⟨b2,_,_,k2,_⟩:=hnew
      rw[k1] at k2;cases k2
   ·simp only[if_neg hi] at ht;exact h.rootB i v hr ht
  rngB:=h.rngB }
end Go.Proofs.YtmdefiphdgcijaaDoor

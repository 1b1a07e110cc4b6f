/- Blocks that stay as they are while the call goes on: the same state seen from a later start. -/
import Derived.Test.YtmdefiphdgcijaaDoorVmDraw3
set_option linter.unusedVariables false
set_option linter.unusedSimpArgs false
namespace Go.Proofs.YtmdefiphdgcijaaDoor
section
variable {w w':World}
theorem d3g.ctx{c c':Ctx}{S:Nat→Prop}{v:Arg}{x:Value}(h:d3g c S w v x)(hst:∀ b,St c S b→St c' S b):d3g c' S w v x:=by
 cases v with
 | ref v=>obtain⟨b,o,cs,h1,h2,h3⟩:=h;exact⟨b,o,cs,h1,hst b h2,h3⟩
 | val v=>exact h
 | fn f=>exact h
 | clo v=>exact h
 | own v=>exact h
 | box k=>exact h
theorem C1.ctx{c c':Ctx}(hP:c'.P=c.P){G:Gh}{lk:Nat→Option a0d}{v:AV}{x:Value}(h:C1 c G lk w v x)(hst:∀ b,St c G.S b→St c' G.S b):C1 c' G lk w v x:=by
 cases v with
 | pimm v=>obtain⟨b,o,cs,h1,h2,h3⟩:=h;exact⟨b,o,cs,h1,hst b h2,h3⟩
 | fun_ v=>obtain⟨f,caps,l,h1,h2,h3⟩:=h;exact⟨f,caps,l,h1,hP ▸ h2,h3.imp fun _ _ _ q=>q.ctx hst⟩
 | _=>exact h
theorem TR.ctx{c c':Ctx}(hP:c'.P=c.P){G:Gh}{lk:Nat→Option a0d}{v:AV}{x:Value}(h:TR c G lk w v x)(hst:∀ b,St c G.S b→St c' G.S b):TR c' G lk w v x:=by
 cases v with
 | tree id=>exact (show C1 c G lk w (.tree id) x from h).ctx hP hst
 | agg cs=>obtain⟨l,h1,h2⟩:=h;exact⟨l,h1,h2.imp fun _ _ _ q=>q.ctx hP hst⟩
 | imm v=>exact h
 | any=>trivial
 | _=>exact h.elim
theorem CR.ctx{c c':Ctx}(hP:c'.P=c.P){G:Gh}{lk:Nat→Option a0d}{v:AV}{x:Value}(h:CR c G lk w v x)(hst:∀ b,St c G.S b→St c' G.S b):CR c' G lk w v x:=by
 cases v with
 | imm v=>exact h
 | agg cs=>obtain⟨l,h1,h2⟩:=h;exact⟨l,h1,h2.imp fun _ _ _ q=>q.ctx hP hst⟩
 | any=>exact (show C1 c G lk w (.any) x from h).ctx hP hst
 | undf=>exact (show C1 c G lk w (.undf) x from h).ctx hP hst
 | nil=>exact (show C1 c G lk w (.nil) x from h).ctx hP hst
 | pimm v=>exact (show C1 c G lk w (.pimm v) x from h).ctx hP hst
 | ptr i o=>exact (show C1 c G lk w (.ptr i o) x from h).ctx hP hst
 | row i=>exact (show C1 c G lk w (.row i) x from h).ctx hP hst
 | rptr i j o=>exact (show C1 c G lk w (.rptr i j o) x from h).ctx hP hst
 | tup vs=>exact (show C1 c G lk w (.tup vs) x from h).ctx hP hst
 | fn f=>exact (show C1 c G lk w (.fn f) x from h).ctx hP hst
 | tree i=>exact (show C1 c G lk w (.tree i) x from h).ctx hP hst
 | sub i j o z=>exact (show C1 c G lk w (.sub i j o z) x from h).ctx hP hst
 | tptr i j o z=>exact (show C1 c G lk w (.tptr i j o z) x from h).ctx hP hst
 | clo f cs=>exact (show C1 c G lk w (.clo f cs) x from h).ctx hP hst
 | fun_ v=>exact (show C1 c G lk w (.fun_ v) x from h).ctx hP hst
 | mp i=>exact (show C1 c G lk w (.mp i) x from h).ctx hP hst
theorem VR.ctx{c c':Ctx}(hP:c'.P=c.P){G:Gh}{lk:Nat→Option a0d}{v:AV}{x:Value}(h:VR c G lk w v x)(hst:∀ b,St c G.S b→St c' G.S b):VR c' G lk w v x:=by
 cases v with
 | imm v=>exact h
 | agg cs=>obtain⟨l,h1,h2⟩:=h;exact⟨l,h1,h2.imp fun _ _ _ q=>q.ctx hP hst⟩
 | tup vs=>obtain⟨l,h1,h2⟩:=h;exact⟨l,h1,h2.imp fun _ _ _ q=>q.ctx hP hst⟩
 | clo f cs=>obtain⟨l,h1,h2⟩:=h;exact⟨l,h1,h2.imp fun _ _ _ q=>q.ctx hP hst⟩
 | any=>exact (show C1 c G lk w (.any) x from h).ctx hP hst
 | undf=>exact (show C1 c G lk w (.undf) x from h).ctx hP hst
 | nil=>exact (show C1 c G lk w (.nil) x from h).ctx hP hst
 | pimm v=>exact (show C1 c G lk w (.pimm v) x from h).ctx hP hst
 | ptr i o=>exact (show C1 c G lk w (.ptr i o) x from h).ctx hP hst
 | row i=>exact (show C1 c G lk w (.row i) x from h).ctx hP hst
 | rptr i j o=>exact (show C1 c G lk w (.rptr i j o) x from h).ctx hP hst
 | fn f=>exact (show C1 c G lk w (.fn f) x from h).ctx hP hst
 | tree i=>exact (show C1 c G lk w (.tree i) x from h).ctx hP hst
 | sub i j o z=>exact (show C1 c G lk w (.sub i j o z) x from h).ctx hP hst
 | tptr i j o z=>exact (show C1 c G lk w (.tptr i j o z) x from h).ctx hP hst
 | fun_ v=>exact (show C1 c G lk w (.fun_ v) x from h).ctx hP hst
 | mp i=>exact (show C1 c G lk w (.mp i) x from h).ctx hP hst
theorem OR.ctx{c c':Ctx}(hP:c'.P=c.P){G:Gh}{lk:Nat→Option a0d}{id:Nat}{o:a0d}(h:OR c G lk w id o)(hst:∀ b,St c G.S b→St c' G.S b):OR c' G lk w id o:=by
 cases o with
 | box cs=>obtain⟨b,l,t,h1,h2,h3⟩:=h;exact⟨b,l,t,h1,h2,h3.imp fun _ _ _ q=>q.ctx hP hst⟩
 | row e τ xs=>exact h
 | tree τ xs=>exact h
 | map m=>exact h
def Ctx.fz(c:Ctx)(w:World)(S:Nat→Prop)(Z:Nat→Prop):Ctx :=
 { c with w0:=w,X:=fun b=>((c.w0.heap.size≤b∧b<w.heap.size)∨c.X b)∧¬ Z b,S0:=S,Z:=fun b=>Z b∨c.Z b }
theorem Inv.fz{c:Ctx}{G:Gh}{s:a0c}{a:Act}(h:Inv c G s a w){Z:Nat→Prop}(hZ:∀ b,Z b→FrB c G s.look w b):Inv (c.fz w G.S Z) G s a w:=by
 have hst:∀ b,St c G.S b→St (c.fz w G.S Z) G.S b:=fun b hb=>by
  rcases hb with hb|⟨h1,h2,h3⟩
  ·exact .inl hb
  ·refine .inr ⟨Nat.lt_of_lt_of_le h1 h.keep.size,fun q=>q.1.elim (fun q=>by omega) h2,fun q=>q.elim (fun z=>(hZ b z).1.elim (fun q=>by omega) h2) h3⟩
 exact {
  defers:=h.defers,size:=h.size
  keep:=a1p.refl _ _
  xLt:=⟨fun b hb=>hb.1.elim (fun q=>q.2) fun q=>Nat.lt_of_lt_of_le (h.xLt.1 b q) h.keep.size,fun g hg=>by
   obtain⟨_,h2,h3,_⟩:=h.xLt.2 g hg
   obtain⟨g1,g2⟩:=h.sOk.2 g hg
   exact⟨g1,fun q=>q.1.elim (fun q=>by omega) h2,h.sLt g g1,g2⟩⟩
  sOld:=fun b _ _=>Iff.rfl
  sX:=fun b hb=>hb
  sLt:=h.sLt
  slots:=fun i=>(h.slots i).ctx (c:=c) (c':=c.fz w G.S Z) rfl hst
  objs:=fun id o ho=>(h.objs id o ho).ctx (c:=c) (c':=c.fz w G.S Z) rfl hst
  place:=fun id o b ho hb=>by
   obtain⟨h1,h2,h3⟩:=h.place id o b ho hb
   exact⟨.inr ⟨h1.imp (fun q=>⟨q,h3⟩) (fun q=>q),fun z=>(hZ b z).2.2.2.1 id o ho hb⟩,h2,h3⟩
  apart:=h.apart
  trees:={
   tr:=h.trees.tr,nd:=h.trees.nd,ap:=h.trees.ap
   pl:=fun id τ xs b ht hb=>by
    obtain⟨h1,h2,h3,h4⟩:=h.trees.pl id τ xs b ht hb
    exact⟨.inr ⟨h1.imp (fun q=>⟨q,h3⟩) (fun q=>q),fun z=>(hZ b z).2.2.2.2 id τ xs ht hb⟩,h2,h3,h4⟩ }
  root:=h.root,rng:=h.rng,rootB:=h.rootB,rngB:=h.rngB }
theorem Inv.unfz{c:Ctx}{G:Gh}{s:a0c}{a:Act}{G':Gh}{s':a0c}{a':Act}(h:Inv c G s a w){Z:Nat→Prop}(hZ:∀ b,Z b→FrB c G s.look w b)(h':Inv (c.fz w G.S Z) G' s' a' w') :
  Inv c G' s' a' w'∧∀ b,Z b→w'.heap[b]?=w.heap[b]?∧FrB c G' s'.look w' b:=by
 have hst:∀ b,St (c.fz w G.S Z) G'.S b→St c G'.S b:=fun b hb=>by
  rcases hb with hb|⟨h1,h2,h3⟩
  ·exact .inl hb
  ·have hz:¬ Z b:=fun z=>h3 (.inl z)
   refine .inr ⟨?_,fun q=>h2 ⟨.inr q,hz⟩,fun q=>h3 (.inr q)⟩
   rcases Nat.lt_or_ge b c.w0.heap.size with q|q
   ·exact q
   ·exact absurd ⟨.inl ⟨q,h1⟩,hz⟩ h2
 have back:∀ b,(w.heap.size≤b∨(c.fz w G.S Z).X b)→c.w0.heap.size≤b∨c.X b:=fun b hb=>by
  have:=h.keep.size
  exact hb.elim (fun q => .inl (by omega)) fun q=>q.1.elim (fun q => .inl q.1) .inr
 refine⟨{
  defers:=h'.defers,size:=h'.size
  keep:=h.keep.trans h'.keep fun i hi hx=>hx.1.elim (fun q=>by omega) (fun q=>q)
  xLt:=h.xLt
  sOld:=fun b hb hx=>(h'.sOld b (Nat.lt_of_lt_of_le hb h.keep.size) (fun q=>q.1.elim (fun q=>by omega) hx)).trans (h.sOld b hb hx)
  sX:=fun b hb=>h'.sX b (h.sX b hb)
  sLt:=h'.sLt
  slots:=fun i=>(h'.slots i).ctx (c:=c.fz w G.S Z) (c':=c) rfl hst
  objs:=fun id o ho=>(h'.objs id o ho).ctx (c:=c.fz w G.S Z) (c':=c) rfl hst
  place:=fun id o b ho hb=>by
   obtain⟨h1,h2,h3⟩:=h'.place id o b ho hb
   exact⟨back b h1,h2,h3⟩
  apart:=h'.apart
  trees:={
   tr:=h'.trees.tr,nd:=h'.trees.nd,ap:=h'.trees.ap
   pl:=fun id τ xs b ht hb=>by
    obtain⟨h1,h2,h3,h4⟩:=h'.trees.pl id τ xs b ht hb
    exact⟨back b h1,h2,h3,h4⟩ }
  root:=h'.root,rng:=h'.rng,rootB:=h'.rootB,rngB:=h'.rngB },fun b z=>?_⟩
 obtain⟨z1,z2,z3,z4,z5⟩:=hZ b z
 have hnx:¬ (c.fz w G.S Z).X b:=fun q=>q.2 z
 have hno:¬ (w.heap.size≤b∨(c.fz w G.S Z).X b):=fun q=>q.elim (fun q=>by omega) hnx
 exact⟨h'.keep.block b z3 hnx,z1,fun q=>z2 ((h'.sOld b z3 hnx).1 q),Nat.lt_of_lt_of_le z3 h'.keep.size,fun i o hio hb=>hno (h'.place i o b hio hb).1,fun j τ xs hj hb=>hno (h'.trees.pl j τ xs b hj hb).1⟩
end
end Go.Proofs.YtmdefiphdgcijaaDoor

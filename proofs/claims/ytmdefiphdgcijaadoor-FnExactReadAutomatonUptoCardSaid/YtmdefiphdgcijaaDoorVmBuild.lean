/- Slices that are built of memory of one's own: literals, append. -/
import Derived.Test.YtmdefiphdgcijaaDoorVmMark
set_option linter.unusedVariables false
set_option linter.unusedSimpArgs false
namespace Go.Proofs.YtmdefiphdgcijaaDoor
section
variable {w:World}
theorem a0x.join{n:Nat}:∀ (ds:List D) {l:List Value} {fp:List Nat},a0x w ds l fp→(∀ d∈ds,d.size=n) →
  ds.length * n≤l.length∧∀ (es:List D) (m:List Value) (f2:List Nat),a0x w es m f2→a0x w (ds++es) (l.take (ds.length * n)++m) (fp++f2)
 | [],l,fp,h,_=>by
  have h:fp=[]:=h
  subst h
  exact⟨by simp,fun es m f2 k=>by simpa using k⟩
 | d::ds,l,fp,h,hn=>by
  obtain⟨c,r,f1,f2,rfl,rfl,h3,h4⟩:=h
  have hc:c.length=n:=by rw[Ow.length d h3];exact hn d (by simp)
  obtain⟨k1,k2⟩:=a0x.join ds h4 fun d hd=>hn d (by simp[hd])
  have e:(d::ds).length * n=c.length+ds.length * n:=by rw[List.length_cons,Nat.add_mul,hc];omega
  refine⟨by rw[e,List.length_append];omega,fun es m f3 k=>?_⟩
  refine⟨c,r.take (ds.length * n)++m,f1,f2++f3,?_,by simp,h3,k2 es m f3 k⟩
  rw[e,c1e,List.append_assoc]
theorem a0x.rdL{n:Nat}:∀ (ds:List D) {l:List Value} {fp:List Nat},a0x w ds l fp→(∀ d∈ds,d.size=n)→RdL w (fun _=>True) ds (l.take (ds.length * n))
 | [],l,fp,h,_=>by simp[RdL]
 | d::ds,l,fp,h,hn=>by
  obtain⟨c,r,f1,f2,rfl,rfl,h3,h4⟩:=h
  have hc:c.length=n:=by rw[Ow.length d h3];exact hn d (by simp)
  have e:(d::ds).length * n=c.length+ds.length * n:=by rw[List.length_cons,Nat.add_mul,hc];omega
  exact⟨c,r.take (ds.length * n),by rw[e,c1e],Ow.rd d h3 fun _ _=>trivial,a0x.rdL ds h4 fun d hd=>hn d (by simp[hd])⟩
theorem d0a{τ:Ty}(xs:List τ.den):∀ d∈xs.map τ.toD,d.size=τ.size:=by
 intro d hd
 obtain⟨z,_,rfl⟩:=List.mem_map.1 hd
 exact Ty.size_toD τ z
theorem d5k{g k:Nat}{l:List Value}{t:TypeId}(h:w.heap[g]?=some (.cells l.toArray t (0,0))):∀ j v,(l.take k)[j]?=some v→w.cell? ((⟨g,0,none⟩:Addr).add j)=some v:=by
 intro j v hj
 rw[Addr.add_lit]
 have:=c5y (w:=w) (b:=g) (p:=[]) (c:=l.take k) (r:=l.drop k) (t:=t) (by simpa using h) j v hj
 simpa using this
theorem d4j{P:Program}(t ty e:TypeId)(i:TypeInfo)(ht:P.underlying t=some (.slice e))(hi:P.info? e=some i)
  (g sLen sCap:Nat) (cur:Array Value) (t2:TypeId) (hg:w.heap[g]?=some (.cells cur t2 (0,0)))
  (a:Addr) (m c:Nat) (news:List Value) (hl:news.length=m * i.size) (hnews:∀ j u,news[j]?=some u→w.cell? (a.add j)=some u) (h1:∀ u∈news,u.oneCell'=true)
  (hroom:sLen+m≤sCap) (hfit:sLen * i.size+news.length≤cur.size) :
  (Builtin.append_ #[t,t] ty #[.slice (some ⟨g,0,none⟩) sLen sCap, .slice (some a) m c]).run P w =
   .ok (.slice (some ⟨g,0,none⟩) (sLen+m) sCap) (w.setRow g (cur.toList.take (sLen * i.size)++news++cur.toList.drop (sLen * i.size+news.length)).toArray):=by
 have hf:=run_firstCells_some (P:=P) w i.size m a m c news hl hnews
 have hst:=run_storeCells_at P g (sLen * i.size) t2 news 0 cur w hg (by simpa using hfit) h1
 simp only[Nat.add_zero] at hst
 simp[Builtin.append_,run_underlying ht,sizeOf,typeInfo,hi,Builtin.lenOf,hroom,hf,Addr.add_lit,hst]
theorem e1g{τ:Ty}{zs:List τ.den}{q:List Value}{fp:List Nat}{z:Array Value}{cap:Nat}{e:TypeId}(hq:a0x w (zs.map τ.toD) q fp)(hql:q.length=zs.length * τ.size)(hzs:z.size=τ.size)
  (hc:zs.length≤cap) (hm:cap≤maxLen) (h47:zs.length≤140737488355328) (hlt:∀ b∈fp,b<w.heap.size) :
  a4l (w.drew.alloc (.cells (q.toArray++Builtin.zeroCells z (cap - zs.length)) e)) (.tuple (.slice (some ⟨w.heap.size,0,none⟩) zs.length cap::(q.toArray++Builtin.zeroCells z (cap - zs.length)).toList).toArray) τ zs (w.heap.size::fp):=by
 refine⟨_,_,some ⟨w.heap.size,0,none⟩,cap,rfl,rfl,hc,hm,h47, .inr ⟨w.heap.size,fp,e,rfl,rfl,?_,?_,?_⟩⟩
 ·rw[Array.toArray_toList]
  exact heap_alloc_new w.drew _
 ·simp only[Array.toList_append,List.length_append,hql,Array.length_toList,size_zeroCells,hzs]
  rw[←Nat.add_mul]
  congr 1
  omega
 ·rw[Array.toList_append]
  have hk:∀ b∈fp,(w.drew.alloc (.cells (q.toArray++Builtin.zeroCells z (cap - zs.length)) e)).heap[b]?=w.heap[b]?:=fun b hb=>heap_alloc_old w.drew _ b (hlt b hb)
  have:=a0x.keep _ hq hk
  have more:∀ (ds:List D) {l:List Value} {f:List Nat} (m:List Value),a0x (w.drew.alloc (.cells (q.toArray++Builtin.zeroCells z (cap - zs.length)) e)) ds l f→a0x (w.drew.alloc (.cells (q.toArray++Builtin.zeroCells z (cap - zs.length)) e)) ds (l++m) f:=by
   intro ds
   induction ds with
   | nil=>intro l f m h;exact h
   | cons d ds ih =>
    intro l f m h
    obtain⟨cc,r,f1,f2,rfl,hf,h3,h4⟩:=h
    exact⟨cc,r++m,f1,f2,by simp,hf,h3,ih m h4⟩
  exact more _ _ this
end
section
variable {c:Ctx} {G:Gh} {sl:Nat→AV} {n:Nat} {lk:Nat→Option a0d} {a:Act} {w w':World}
theorem e2g(hE:a0r c.P c.E){T:TypeId}{τ:Ty}{b e:Nat}(hT:a0f c.E.ty T=some (.slice τ,b,e)){xs ys:List τ.den}{x y:Value}{fx fy:List Nat}
  (hx:Ow w (.slice τ.size (xs.map τ.toD)) [x] fx) (hy:Ow w (.slice τ.size (ys.map τ.toD)) [y] fy) (hlx:∀ k∈fx,k<w.heap.size) (hly:∀ k∈fy,k<w.heap.size) (hnx:fx.Nodup) (hny:fy.Nodup) (hd:∀ k∈fx,k∉fy)
  (hroom:a2d (xs.length+ys.length) b) (ty:TypeId) :
  ∃ v' w' fp l,(Builtin.append_ #[T,T] ty #[x,y]).run c.P w = .ok v' w'∧a4l w' (.tuple (v'::l).toArray) τ (xs++ys) fp∧(∃ a n m,v' = .slice a n m)∧fp.Nodup∧(∀ k∈fp,k∈fx∨k∈fy∨(w.heap.size≤k∧k<w'.heap.size))∧a1p (fun k=>k∈fx) w w':=by
 obtain⟨k1,⟨b',e',k2⟩,i,zv,k3,k4,k5,k6,k7⟩:=hE.slice hT
 have hzs:zv.cells.size=τ.size:=by
  have:=Rd.length _ (d1z (w:=w) (S:=fun _=>True) k7)
  rwa [Ty.size_toD,Array.length_toList] at this
 have hpos:=τ.size_pos
 have hr1:(xs.length+ys.length) * b≤140737488355328∧xs.length+ys.length≤140737488355328:=by
  unfold a2d at hroom
  rw[Nat.mul_add,Nat.mul_one] at hroom
  omega
 have hmax:xs.length+ys.length≤maxLen:=by simp only[maxLen];omega
 obtain⟨lx,hxT,_⟩:=a4l.of_ow hx
 have hx0:=hx
 obtain⟨ax,capx,x1,x2,x3,x4,x5⟩:=hx
 obtain⟨ay,capy,y1,y2,y3,y4,y5⟩:=hy
 simp only[List.cons.injEq,and_true,List.length_map] at x1 x2 x4 y1 y2 y4
 subst x1 y1
 have same:(Builtin.append_ #[T,T] ty #[.slice ax xs.length capx, .slice ay ys.length capy]).run c.P w = .ok (.slice ax xs.length capx) w→ys=[]→∃ v' w' fp l,(Builtin.append_ #[T,T] ty #[.slice ax xs.length capx, .slice ay ys.length capy]).run c.P w = .ok v' w'∧a4l w' (.tuple (v'::l).toArray) τ (xs++ys) fp∧(∃ a n m,v' = .slice a n m)∧fp.Nodup∧(∀ k∈fp,k∈fx∨k∈fy∨(w.heap.size≤k∧k<w'.heap.size))∧a1p (fun k=>k∈fx) w w':=by
  intro hr he
  subst he
  exact⟨_,w,fx,lx,hr,by simpa using hxT,⟨_,_,_,rfl⟩,hnx,fun k hk => .inl hk,a1p.refl _ _⟩
 rcases y5 with ⟨q1,⟨q2,q3⟩,q4⟩|⟨gy,f2,l2,t2,q1,q2,q3,q4,q5⟩
 ·have hys:ys=[]:=by simpa using q1
  subst hys
  refine same ?_ rfl
  subst q2
  simp[Builtin.append_,run_underlying k1,sizeOf,typeInfo,k3,Builtin.lenOf,Builtin.firstCells,x2,storeCells]
  cases ax<;>rfl
 ·subst q1 q2
  have hsy:=d0a ys
  obtain⟨j1,_⟩:=a0x.join _ q5 hsy
  rw[List.length_map] at j1
  have hnl:(l2.take (ys.length * τ.size)).length=ys.length * τ.size:=by rw[List.length_take];omega
  have hone:∀ u∈l2.take (ys.length * τ.size),u.oneCell'=true:=by
   have:=a0x.rdL _ q5 hsy
   rw[List.length_map] at this
   exact RdL.oneCells this
  have hnews:=d5k (w:=w) (k:=ys.length * τ.size) q3
  have hyrow:a0x w (ys.map τ.toD) (l2.take (ys.length * τ.size)) f2:=by
   have:=(a0x.join _ q5 hsy).2 [] [] [] rfl
   simpa using this
  rcases x5 with ⟨p1,⟨p2,p3⟩,p4⟩|⟨gx,f1,l1,t1,p1,p2,p3,p4,p5⟩
  ·have hxs:xs=[]:=by simpa using p1
   subst hxs p2 p3 p4
   by_cases hm:ys=[]
   ·refine same ?_ hm
    subst hm
    simp[Builtin.append_,run_underlying k1,sizeOf,typeInfo,k3,Builtin.lenOf,Builtin.firstCells,loadCells,loadCellsFrom]
   ·have hm0:0<ys.length:=List.length_pos_iff.2 hm
    have hr:=run_append_nil (P:=c.P) w T ty e i zv k1 k3 k6 ⟨gy,0,none⟩ ys.length capy (l2.take (ys.length * τ.size)) (by rw[hnl,k4]) hnews hm0 (by omega) (by rw[k5];have:=hr1.1;simp only[List.length_nil,Nat.zero_add] at this;omega)
    have hg:=e1g (w:=w) (e:=e) (zs:=ys) (cap:=grownCap w ys.length 0 e) hyrow hnl hzs (grownCap_ge w ys.length 0 e) (grownCap_le_maxLen w ys.length 0 e (by simpa using hmax)) (by omega) (fun k hk=>hly k (by simp[hk]))
    refine⟨.slice (some ⟨w.heap.size,0,none⟩) ys.length (grownCap w ys.length 0 e),w.drew.alloc (.cells ((l2.take (ys.length * τ.size)).toArray++Builtin.zeroCells zv.cells (grownCap w ys.length 0 e - ys.length)) e),w.heap.size::f2,_,hr,hg,⟨_,_,_,rfl⟩,?_,?_,⟨rfl,rfl,rfl,by simp,fun k hk _=>heap_alloc_old w.drew _ k hk⟩⟩
    ·rw[List.nodup_cons] at hny ⊢
     exact⟨fun hh=>Nat.lt_irrefl _ (hly _ (by simp[hh])),hny.2⟩
    ·intro k hk
     rcases List.mem_cons.1 hk with rfl|hk
     ·exact .inr (.inr ⟨Nat.le_refl _,by simp⟩)
     ·exact .inr (.inl (by simp[hk]))
  ·subst p1 p2
   have hsx:=d0a xs
   obtain⟨i1,i2⟩:=a0x.join _ p5 hsx
   rw[List.length_map] at i1 i2
   have hxl:(l1.take (xs.length * τ.size)).length=xs.length * τ.size:=by rw[List.length_take];omega
   have hnf:(f1++f2).Nodup∧gx∉f1++f2:=by
    rw[List.nodup_cons] at hnx hny
    refine⟨List.nodup_append.2 ⟨hnx.2,hny.2,fun k hk k' hk' e=>?_⟩,fun hh=>?_⟩
    ·subst e;exact hd k (by simp[hk]) (by simp[hk'])
    ·rcases List.mem_append.1 hh with hh|hh
     ·exact hnx.1 hh
     ·exact hd gx (by simp) (by simp[hh])
   have hrow:=i2 (ys.map τ.toD) _ f2 hyrow
   rw[←List.map_append] at hrow
   by_cases hfit:xs.length+ys.length≤capx
   ·have hcs:xs.length * i.size+(l2.take (ys.length * τ.size)).length≤l1.toArray.size:=by
     rw[hnl,k4,←Nat.add_mul,List.size_toArray,p4]
     exact Nat.mul_le_mul_right _ hfit
    have hr:=d4j (P:=c.P) (w:=w) T ty e i k1 k3 gx xs.length capx l1.toArray t1 p3 ⟨gy,0,none⟩ ys.length capy (l2.take (ys.length * τ.size)) (by rw[hnl,k4]) hnews hone hfit hcs
    have hkeep:∀ k,k≠gx→(w.setRow gx (l1.toArray.toList.take (xs.length * i.size)++l2.take (ys.length * τ.size)++l1.toArray.toList.drop (xs.length * i.size+(l2.take (ys.length * τ.size)).length)).toArray).heap[k]?=w.heap[k]?:=fun k hk=>b0g w p3 k hk
    refine⟨_,_,gx::(f1++f2),(l1.take (xs.length * τ.size)++l2.take (ys.length * τ.size)++l1.drop (xs.length * τ.size+ys.length * τ.size)),hr,?_,⟨_,_,_,rfl⟩,List.nodup_cons.2 ⟨hnf.2,hnf.1⟩,?_,⟨rfl,rfl,rfl,by simp[World.setRow],fun k hk hne=>hkeep k fun e=>hne (by simp[e])⟩⟩
    ·refine⟨_,_,some ⟨gx,0,none⟩,capx,rfl,by simp,by simpa using hfit,x3,by simp;omega, .inr ⟨gx,f1++f2,t1,rfl,rfl,?_,?_,?_⟩⟩
     ·have:=setRow_heap w gx l1.toArray (l1.toArray.toList.take (xs.length * i.size)++l2.take (ys.length * τ.size)++l1.toArray.toList.drop (xs.length * i.size+(l2.take (ys.length * τ.size)).length)).toArray t1 (0,0) p3
      rw[this,hnl,k4]
     ·simp only[List.length_append,hxl,hnl,List.length_drop,p4]
      have:xs.length * τ.size+ys.length * τ.size≤capx * τ.size:=by rw[←Nat.add_mul];exact Nat.mul_le_mul_right _ hfit
      omega
     ·have hk:∀ k∈f1++f2,(w.setRow gx (l1.toArray.toList.take (xs.length * i.size)++l2.take (ys.length * τ.size)++l1.toArray.toList.drop (xs.length * i.size+(l2.take (ys.length * τ.size)).length)).toArray).heap[k]?=w.heap[k]?:=fun k hk=>hkeep k fun e=>hnf.2 (e ▸ hk)
      have h2:=a0x.keep _ hrow hk
      have more:∀ (w2:World) (ds:List D) {l:List Value} {f:List Nat} (m:List Value),a0x w2 ds l f→a0x w2 ds (l++m) f:=by
       intro w2 ds
       induction ds with
       | nil=>intro l f m h;exact h
       | cons d ds ih =>
        intro l f m h
        obtain⟨cc,r,f1,f2,rfl,hf,h3,h4⟩:=h
        exact⟨cc,r++m,f1,f2,by simp,hf,h3,ih m h4⟩
      exact more _ _ _ h2
    ·intro k hk
     rcases List.mem_cons.1 hk with rfl|hk
     ·exact .inl (by simp)
     ·rcases List.mem_append.1 hk with hk|hk
      ·exact .inl (by simp[hk])
      ·exact .inr (.inl (by simp[hk]))
   ·have hr:=run_append_grow (P:=c.P) w T ty e i zv k1 k3 k6 ⟨gx,0,none⟩ xs.length capx (l1.take (xs.length * τ.size)) (by rw[hxl,k4]) (d5k p3) ⟨gy,0,none⟩ ys.length capy (l2.take (ys.length * τ.size)) (by rw[hnl,k4]) hnews (by omega) (by omega) (by rw[k5];exact growslice_fits (by omega) hr1.1)
    have hql:(l1.take (xs.length * τ.size)++l2.take (ys.length * τ.size)).length=(xs++ys).length * τ.size:=by rw[List.length_append,hxl,hnl,List.length_append,Nat.add_mul]
    have hle:(xs++ys).length=xs.length+ys.length:=List.length_append
    have hlt:∀ k∈f1++f2,k<w.heap.size:=fun k hk=>by
     rcases List.mem_append.1 hk with hk|hk
     ·exact hlx k (by simp[hk])
     ·exact hly k (by simp[hk])
    have hg:=e1g (w:=w) (e:=e) (zs:=xs++ys) (cap:=grownCap w (xs.length+ys.length) capx e) hrow hql hzs (by rw[hle];exact grownCap_ge w _ _ e) (grownCap_le_maxLen w _ _ e hmax) (by omega) hlt
    rw[hle] at hg
    refine⟨_,w.drew.alloc (.cells ((l1.take (xs.length * τ.size)).toArray++(l2.take (ys.length * τ.size)).toArray++Builtin.zeroCells zv.cells (grownCap w (xs.length+ys.length) capx e - (xs.length+ys.length))) e),w.heap.size::(f1++f2),_,hr,by simpa [hle] using hg,⟨_,_,_,rfl⟩,?_,?_,⟨rfl,rfl,rfl,by simp,fun k hk _=>heap_alloc_old w.drew _ k hk⟩⟩
    ·exact List.nodup_cons.2 ⟨fun hh=>Nat.lt_irrefl _ (hlt _ hh),hnf.1⟩
    ·intro k hk
     rcases List.mem_cons.1 hk with rfl|hk
     ·exact .inr (.inr ⟨Nat.le_refl _,by simp⟩)
     ·rcases List.mem_append.1 hk with hk|hk
      ·exact .inl (by simp[hk])
      ·exact .inr (.inl (by simp[hk]))
end
end Go.Proofs.YtmdefiphdgcijaaDoor

/-
  A part of the proof (YxO).
-/
import Derived.Test.YtaeeaniofljmnaaGreatDoorYxH
namespace Go.Proofs.YtaeeaniofljmnaaGreatDoor.Sx
set_option linter.unusedSimpArgs false
set_option linter.unusedVariables false
open Go Go.RowKit
def Vd (ops:Array Oper):Array Bool→List Nat→Prop
 | listed,[]=>Region.ready .any ops listed=[]
 | listed,i :: r=>i∈Region.ready .any ops listed∧Vd ops (listed.setIfInBounds i true) r
def b29 (x i:Nat):Array Bool→List Nat→Prop
 | _,[]=>True
 | listed,h :: r=>(h=i→listed.getD x false=true)∧b29 x i (listed.setIfInBounds h true) r
theorem b4i {listed:Array Bool} {x h:Nat} (hx:listed.getD x false=true):(listed.setIfInBounds h true).getD x false=true:=by
 by_cases e:h=x
 ·subst e
  have:h < listed.size:=by
   rcases Nat.lt_or_ge h listed.size with h1 | h1
   ·exact h1
   ·simp[Array.getElem?_eq_none h1] at hx
  simp[this]
 ·rw[getD_set_ne false e]; exact hx
theorem a1l {listed:Array Bool} {x:Nat} (h:x < listed.size) (d:Bool):(listed.setIfInBounds x true).getD x d=true:=by simp[h]
theorem a64 {x i:Nat}:∀(L:List Nat) (listed:Array Bool),listed.getD x false=true→b29 x i listed L:=by
 intro L
 induction L with
 | nil=>intro _ _; trivial
 | cons h r ih=>intro listed hx; exact⟨fun _=>hx,ih _ (b4i hx)⟩
theorem c12 {x i:Nat} (hne:x≠i):∀(L:List Nat) (listed:Array Bool),x < listed.size→i < listed.size→b29 x i listed L∨b29 i x listed L:=by
 intro L
 induction L with
 | nil=>intro _ _ _; exact .inl trivial
 | cons h r ih =>
  intro listed hx hi
  by_cases h1:listed.getD x false=true
  ·exact .inl (a64 _ _ h1)
  by_cases h2:listed.getD i false=true
  ·exact .inr (a64 _ _ h2)
  by_cases e1:h=i
  ·subst e1
   exact .inr ⟨fun e=>absurd e.symm hne,a64 _ _ (a1l hi false)⟩
  by_cases e2:h=x
  ·subst e2
   exact .inl ⟨fun e=>absurd e hne,a64 _ _ (a1l hx false)⟩
  rcases ih (listed.setIfInBounds h true) (by simpa using hx) (by simpa using hi) with h3 | h3
  ·exact .inl ⟨fun e=>absurd e e1,h3⟩
  ·exact .inr ⟨fun e=>absurd e e2,h3⟩
theorem c4e {l:List Nat} {i:Nat} (h:i < l.length):l[i]?=some (a0h l i):=by
 unfold a0h
 rw[t0,z0i h]
theorem c47 {n:Nat} {inv pi:List Nat}:∀ {k:Nat},c2h n inv pi k=true→∀ i,i < k→a0h pi i < n∧a0h inv (a0h pi i)=i∧a0h inv i < n∧a0h pi (a0h inv i)=i:=by
 intro k
 induction k with
 | zero=>intro _ i hi; omega
 | succ k ih =>
  intro h i hi
  simp only[c2h,z0d,z0u] at h
  obtain⟨⟨⟨⟨h1,h2⟩,h3⟩,h4⟩,h5⟩:=h
  by_cases e:i=k
  ·subst e; exact⟨h1,z0b h2,h3,z0b h4⟩
  ·exact ih h5 i (by omega)
theorem b8q:∀ {l:List Oper},b1r l=true→∀ o∈l,o.guard=none:=by
 intro l
 induction l with
 | nil=>intro _ o h; cases h
 | cons x r ih =>
  intro h o ho
  simp only[b1r,z0d] at h
  rcases z0s.1 ho with rfl | ho
  ·have h1:=h.1
   split at h1
   ·assumption
   ·cases h1
  ·exact ih h.2 o ho
theorem c5u {n:Nat}:∀ {l:List (Nat × Nat)},c9g n l=true→∀ p∈l,p.1 < n∧p.2 < n:=by
 intro l
 induction l with
 | nil=>intro _ p h; cases h
 | cons x r ih =>
  intro h p hp
  simp only[c9g,z0d,z0u] at h
  rcases z0s.1 hp with rfl | hp
  ·exact h.1
  ·exact ih h.2 p hp
section
variable {ops:Array Oper} {inv pi:List Nat} {ex:List (Nat × Nat)}
structure Mv (ops:Array Oper) (inv pi:List Nat) (ex:List (Nat × Nat)):Prop where
 ok:b0b ops.toList inv pi ex=true
theorem Mv.len (h:Mv ops inv pi ex):inv.length=ops.size∧pi.length=ops.size:=by
 have:=h.ok
 simp only[b0b,z0d] at this
 exact⟨by simpa using z0b this.1.1.1.1,by simpa using z0b this.1.1.1.2⟩
theorem Mv.at (h:Mv ops inv pi ex) {i:Nat} (hi:i < ops.size):a0h pi i < ops.size∧a0h inv (a0h pi i)=i∧a0h inv i < ops.size∧a0h pi (a0h inv i)=i:=by
 have:=h.ok
 simp only[b0b,z0d] at this
 have:=c47 this.1.1.2 i (by simpa using hi)
 simpa using this
theorem Mv.grd (h:Mv ops inv pi ex) {i:Nat} {o:Oper} (ho:ops[i]?=some o):o.guard=none:=by
 have:=h.ok
 simp only[b0b,z0d] at this
 exact b8q this.1.2 o (by rw[Array.mem_toList_iff]; exact Array.mem_of_getElem? ho)
theorem Mv.exs (h:Mv ops inv pi ex) {p:Nat × Nat} (hp:p∈ex):p.1 < ops.size∧p.2 < ops.size:=by
 have:=h.ok
 simp only[b0b,z0d] at this
 have:=c5u this.2 p hp
 simpa using this
theorem Mv.out (h:Mv ops inv pi ex) {i:Nat} (hi:ops.size≤i):a0h pi i=i:=by
 unfold a0h
 rw[t0,List.getElem?_eq_none (by rw[h.len.2]; exact hi)]
theorem Mv.inj (h:Mv ops inv pi ex) {i j:Nat} (hi:i < ops.size) (hj:j < ops.size) (e:a0h pi i=a0h pi j):i=j:=by
 rw[← (h.at hi).2.1,← (h.at hj).2.1,e]
theorem Mv.size (h:Mv ops inv pi ex):(a0d ops.toList inv pi ex).toArray.size=ops.size:=by simp[a0d,h.len.1]
theorem Mv.get (h:Mv ops inv pi ex) {i:Nat} {o:Oper} (ho:ops[i]?=some o):(a0d ops.toList inv pi ex).toArray[a0h pi i]?=some (b6y pi ex i o):=by
 have hi:i < ops.size:=(z0j.1 ho).1
 obtain⟨h1,h2,_,_⟩:=h.at hi
 have hlt:a0h pi i < inv.length:=by rw[h.len.1]; exact h1
 have e:inv[a0h pi i]?=some i:=by rw[c4e hlt,h2]
 have ho2:nth ops.toList i=some o:=by rw[t0]; simpa using ho
 simp only[a0d,List.getElem?_toArray,z3o,e,z2l,ho2]
theorem Mv.get' (h:Mv ops inv pi ex) {j:Nat} {o':Oper} (ho:(a0d ops.toList inv pi ex).toArray[j]?=some o'):∃ i o,j=a0h pi i∧ops[i]?=some o∧o'=b6y pi ex i o:=by
 have hj:j < ops.size:=by rw[← h.size]; exact(z0j.1 ho).1
 obtain⟨_,_,h3,h4⟩:=h.at hj
 have e:=h.get (i:=a0h inv j) (z2m h3)
 rw[h4,ho] at e
 exact⟨a0h inv j,_,h4.symm,z2m h3,by simpa using e⟩
theorem b8m (h:Mv ops inv pi ex):∀(L:List Nat) (l l':Array Bool),l.size=ops.size→l'.size=ops.size→(∀ i,i < ops.size→l'.getD (a0h pi i) false=l.getD i false)→Vd ops l L→(∀ p∈ex,b29 p.1 p.2 l L)→Vd (a0d ops.toList inv pi ex).toArray l' (L.map (a0h pi)):=by
 have two:∀(l:Array Bool) (i:Nat),i < l.size→l.getD i true=l.getD i false:=fun l i hi=>by simp[hi]
 intro L
 induction L with
 | nil =>
  intro l l' hl hl' hll hv _
  show Region.ready .any _ l'=[]
  have hv:Region.ready .any ops l=[]:=hv
  refine z2t.2 fun j hj=>?_
  obtain⟨h1,o',ho',h2⟩:=mem_ready.1 hj
  obtain⟨i,o,rfl,ho,rfl⟩:=h.get' ho'
  have hi:i < ops.size:=(z0j.1 ho).1
  have:i∈Region.ready .any ops l:=mem_ready.2 ⟨by
   rw[two l i (by omega),← hll i hi,← two l' _ (by rw[hl']; exact(h.at hi).1)]; exact h1,o,ho,fun e he hb=>by
   have h3:=h2 ⟨a0h pi e.on,e.ground⟩ (by simp only[b6y,List.mem_toArray,z0n,z2h]; exact .inl ⟨e,by simpa using he,rfl⟩) hb
   rcases Nat.lt_or_ge e.on ops.size with h4 | h4
   ·rw[← hll _ h4]; exact h3
   ·have h3:l'.getD (a0h pi e.on) false=true:=h3
    rw[h.out h4] at h3
    simp[Array.getElem?_eq_none (show l'.size≤e.on by omega)] at h3⟩
  rw[hv] at this
  cases this
 | cons k r ih =>
  intro l l' hl hl' hll hv hex
  obtain⟨h1,hv⟩:=hv
  obtain⟨h1,o,ho,h2⟩:=mem_ready.1 h1
  have hk:k < ops.size:=(z0j.1 ho).1
  refine⟨mem_ready.2 ⟨?_,_,h.get ho,fun e he hb=>?_⟩,ih _ _ (by simpa using hl) (by simpa using hl') (fun i hi=>?_) hv (fun p hp=>(hex p hp).2)⟩
  ·rw[two l' _ (by rw[hl']; exact(h.at hk).1),hll k hk,← two l k (by omega)]; exact h1
  ·simp only[b6y,List.mem_toArray,z0n,z2h,List.mem_filter] at he
   rcases he with⟨e0,he0,rfl⟩ | ⟨p,⟨hp,hp2⟩,rfl⟩
   ·have h3:=h2 e0 (by simpa using he0) hb
    rcases Nat.lt_or_ge e0.on ops.size with h4 | h4
    ·show l'.getD (a0h pi e0.on) false=true
     rw[hll _ h4]; exact h3
    ·simp[Array.getElem?_eq_none (show l.size≤e0.on by omega)] at h3
   ·show l'.getD (a0h pi p.1) false=true
    rw[hll _ (h.exs hp).1]
    exact(hex p hp).1 (z0b hp2).symm
  ·by_cases e:i=k
   ·subst e
    rw[a1l (by rw[hl']; exact(h.at hi).1),a1l (by omega)]
   ·rw[getD_set_ne false (fun e2=>e (h.inj hi hk e2.symm)),getD_set_ne false (Ne.symm e)]
    exact hll i hi
theorem c6m {P:Program} {Q:Exit→Act→World→Prop} (h:Mv ops inv pi ex):∀(L:List Nat) (a:Act) (w:World),(∀ i∈L,i < ops.size)→wpOps P (a0d ops.toList inv pi ex).toArray Q (L.map (a0h pi)) a w→wpOps P ops Q L a w:=by
 intro L
 induction L with
 | nil=>intro a w _ h; exact h
 | cons k r ih =>
  intro a w hL hw
  rw[z2b,wpOps_cons] at hw
  rw[wpOps_cons]
  have hk:=hL k z1h
  have ho:ops[k]?=some ops[k]:=z2m hk
  unfold wpOp at hw ⊢
  rw[h.get ho] at hw
  rw[ho]
  have hg:=h.grd ho
  have w1:∀ y,Region.wanted ops[k] y=true:=fun y=>by simp[Region.wanted,hg]
  have w2:∀ y,Region.wanted (b6y pi ex k ops[k]) y=true:=fun y=>by simp[Region.wanted,b6y,hg]
  simp only[w1,w2,if_true] at hw ⊢
  refine hw.imp (fun h2=>?_) (fun h2=>h2)
  have h3:ops[k].wp P a w (wpOps P (a0d ops.toList inv pi ex).toArray Q (r.map (a0h pi))) Q:=h2
  exact Oper.wp_mono (fun a w hh=>ih a w (fun i hi=>hL i (z0w _ hi)) hh) h3
end
theorem c8u {ops:Array Oper}:∀(L:List Nat) (l:Array Bool),Vd ops l L→∀ i∈L,i < ops.size:=by
 intro L
 induction L with
 | nil=>intro l _ i h; cases h
 | cons k r ih =>
  intro l hv i hi
  rcases z0s.1 hi with rfl | hi
  ·obtain⟨_,o,ho,_⟩:=mem_ready.1 hv.1
   exact(z0j.1 ho).1
  ·exact ih _ hv.2 i hi
theorem b9y {P:Program} {ops:Array Oper} {Q:Exit→Act→World→Prop}:∀(fuel:Nat) (L:List Nat) (l:Array Bool) (a:Act) (w:World),wpAny P .any ops Q fuel l a w→Vd ops l L→L.length≤fuel→wpOps P ops Q L a w:=by
 intro fuel
 induction fuel with
 | zero =>
  intro L l a w h hv hl
  cases L with
  | nil=>exact h.2
  | cons=>simp at hl
 | succ fuel ih =>
  intro L l a w h hv hl
  cases L with
  | nil=>exact h.1 hv
  | cons k r =>
   rw[wpOps_cons]
   exact wpOp_mono (fun a w hh=>ih r _ a w hh hv.2 (by simpa using hl)) (h.2 k hv.1)
def b8v (n:Nat) (l:Array Bool):Nat:=((List.range n).filter (fun i=>!l.getD i true)).length
theorem c3c {p q:Nat→Bool} (h:∀ j,p j=true→q j=true):∀(L:List Nat),(L.filter p).length≤(L.filter q).length:=by
 intro L
 induction L with
 | nil=>exact z0q _
 | cons x r ih =>
  rw[List.filter_cons,List.filter_cons]
  cases hp:p x
  ·cases q x
   ·exact ih
   ·simp only[z2s,if_false,if_true,z1g]; omega
  ·rw[h x hp]
   simp only[if_true,z1g]; omega
theorem c3d {p q:Nat→Bool} (h:∀ j,p j=true→q j=true) {i:Nat} (hp:p i=false) (hq:q i=true):∀(L:List Nat),i∈L→(L.filter p).length < (L.filter q).length:=by
 intro L
 induction L with
 | nil=>intro h; cases h
 | cons x r ih =>
  intro hm
  rw[List.filter_cons,List.filter_cons]
  by_cases e:i=x
  ·subst e
   have:=c3c h r
   rw[hp,hq]
   simp only[z2s,if_false,if_true,z1g]; omega
  ·have:=ih (by rcases z0s.1 hm with h | h; exact absurd h e; exact h)
   cases hpx:p x
   ·cases q x
    ·exact this
    ·simp only[z2s,if_false,if_true,z1g]; omega
   ·rw[h x hpx]
    simp only[if_true,z1g]; omega
theorem b5l {n i:Nat} {l:Array Bool} (hi:i < n) (h:l.getD i true=false):b8v n (l.setIfInBounds i true) < b8v n l:=by
 have hsz:i < l.size:=by
  rcases Nat.lt_or_ge i l.size with h1 | h1
  ·exact h1
  ·simp[Array.getElem?_eq_none h1] at h
 refine c3d (i:=i) (fun j hj=>?_) ?_ ?_ _ (z2q.2 hi)
 ·by_cases e:i=j
  ·subst e; rw[a1l hsz] at hj; cases hj
  ·rw[getD_set_ne true e] at hj; exact hj
 ·rw[a1l hsz]; rfl
 ·rw[h]; rfl
theorem d2c {ops:Array Oper}:∀(fuel t:Nat) (l:Array Bool),b8v ops.size l≤fuel→Vd ops l (Region.linearise.go .any ops fuel t l [])∧(Region.linearise.go .any ops fuel t l []).length≤fuel:=by
 intro fuel
 induction fuel with
 | zero =>
  intro t l h
  refine⟨?_,by simp[Region.linearise.go]⟩
  show Vd ops l ([]:List Nat).reverse
  show Region.ready .any ops l=[]
  refine z2t.2 fun i hi=>?_
  obtain⟨h1,o,ho,_⟩:=mem_ready.1 hi
  have hi2:i < ops.size:=(z0j.1 ho).1
  have:=b5l hi2 h1
  omega
 | succ fuel ih =>
  intro t l h
  have e:Region.linearise.go .any ops (fuel + 1) t l []=(match(Region.ready .any ops l)[t % (Region.ready .any ops l).length]? with
   | some i=>Region.linearise.go .any ops fuel (t / (Region.ready .any ops l).length) (l.setIfInBounds i true) [i]
   | none=>[].reverse):=rfl
  rw[e]
  cases hi:(Region.ready .any ops l)[t % (Region.ready .any ops l).length]? with
  | none =>
   have hnil:Region.ready .any ops l=[]:=by
    cases hr:Region.ready .any ops l with
    | nil=>rfl
    | cons x xs =>
     rw[hr] at hi
     have hlt:t % (x :: xs).length < (x :: xs).length:=Nat.mod_lt _ (by simp)
     simp at hi
     simp at hlt
     omega
   exact⟨hnil,by simp⟩
  | some i =>
   have hm:=z2o hi
   obtain⟨h1,o,ho,_⟩:=mem_ready.1 hm
   have hlt:=b5l (z0j.1 ho).1 h1
   obtain⟨g1,g2⟩:=ih (t / (Region.ready .any ops l).length) (l.setIfInBounds i true) (by omega)
   simp only[]
   rw[linearise_go_acc,List.reverse_singleton,List.singleton_append]
   exact⟨⟨hm,g1⟩,by simpa using g2⟩
theorem b8w (n:Nat) (l:Array Bool):b8v n l≤n:=by
 unfold b8v
 have:=List.length_filter_le (fun i=>!l.getD i true) (List.range n)
 simpa using this
theorem b7a {P:Program} (hm:P.follows .mixedOrders=true) {id:Nat} {ops:Array Oper} {Q:Exit→Act→World→Prop} {a:Act} {w:World} {i1 p1 i2 p2 i3 p3:List Nat} {b q:Nat} (hb:q≠b) (hb2:q≠b + 1)
  (m1:Mv ops i1 p1 [(q,b)]) (m2:Mv ops i2 p2 [(b,q),(q,b + 1)]) (m3:Mv ops i3 p3 [(b,q),(b + 1,q)])
  (w1:wpAny P .any (a0d ops.toList i1 p1 [(q,b)]).toArray Q (a0d ops.toList i1 p1 [(q,b)]).toArray.size (Array.replicate (a0d ops.toList i1 p1 [(q,b)]).toArray.size false) a { w with drawn:=w.drawn + 1 })
  (w2:wpAny P .any (a0d ops.toList i2 p2 [(b,q),(q,b + 1)]).toArray Q (a0d ops.toList i2 p2 [(b,q),(q,b + 1)]).toArray.size (Array.replicate (a0d ops.toList i2 p2 [(b,q),(q,b + 1)]).toArray.size false) a { w with drawn:=w.drawn + 1 })
  (w3:wpAny P .any (a0d ops.toList i3 p3 [(b,q),(b + 1,q)]).toArray Q (a0d ops.toList i3 p3 [(b,q),(b + 1,q)]).toArray.size (Array.replicate (a0d ops.toList i3 p3 [(b,q),(b + 1,q)]).toArray.size false) a { w with drawn:=w.drawn + 1 }):(Code.region id ops true).wp P Q a w:=by
 refine wp_region_draw fun t=>?_
 simp only[Region.schedule,hm,Bool.true_or,if_true]
 obtain⟨hv,hl⟩:=d2c (ops:=ops) ops.size t (Array.replicate ops.size false) (b8w _ _)
 have hsz:(Array.replicate ops.size false).size=ops.size:=by simp
 have hz:∀(pi:List Nat) (i:Nat),i < ops.size→(Array.replicate ops.size false).getD (a0h pi i) false=(Array.replicate ops.size false).getD i false:=fun pi i _=>by
  have hr:∀ j,(Array.replicate ops.size false).getD j false=false:=fun j=>by
   simp only[Array.getD_eq_getD_getElem?,Array.getElem?_replicate]
   split <;> rfl
  rw[hr,hr]
 show wpOps P ops Q (Region.linearise.go .any ops ops.size t (Array.replicate ops.size false) []) a { w with drawn:=w.drawn + 1 }
 generalize Region.linearise.go .any ops ops.size t (Array.replicate ops.size false) []=L at hv hl
 have hbn:=(m1.exs (p:=(q,b)) (by simp))
 have hbn2:=(m2.exs (p:=(q,b + 1)) (by simp))
 have fin:∀ {inv pi:List Nat} {ex:List (Nat × Nat)},Mv ops inv pi ex→wpAny P .any (a0d ops.toList inv pi ex).toArray Q (a0d ops.toList inv pi ex).toArray.size (Array.replicate (a0d ops.toList inv pi ex).toArray.size false) a { w with drawn:=w.drawn + 1 }→(∀ p∈ex,b29 p.1 p.2 (Array.replicate ops.size false) L)→wpOps P ops Q L a { w with drawn:=w.drawn + 1 }:=fun {inv pi ex} m hw he=>by
  refine c6m m L a _ (c8u L _ hv) (b9y _ _ _ a _ hw ?_ (by rw[m.size]; simpa using hl))
  rw[m.size]
  exact b8m m L _ _ hsz hsz (hz pi) hv he
 rcases c12 hb L (Array.replicate ops.size false) (by simpa using hbn.1) (by simpa using hbn.2) with h1 | h1
 ·exact fin m1 w1 fun p hp=>by rcases z0r.1 hp with rfl; exact h1
 ·rcases c12 hb2 L (Array.replicate ops.size false) (by simpa using hbn2.1) (by simpa using hbn2.2) with h2 | h2
  ·exact fin m2 w2 fun p hp=>by
    rcases z0s.1 hp with rfl | hp
    ·exact h1
    ·rcases z0r.1 hp with rfl; exact h2
  ·exact fin m3 w3 fun p hp=>by
    rcases z0s.1 hp with rfl | hp
    ·exact h1
    ·rcases z0r.1 hp with rfl; exact h2
end Go.Proofs.YtaeeaniofljmnaaGreatDoor.Sx

/-
  A part of the proof (NN).
-/
import Derived.Test.YtaeeaniofljmnaaGreatDoorN44a
namespace Go.Proofs.YtaeeaniofljmnaaGreatDoor
set_option linter.unusedSimpArgs false
set_option linter.unusedVariables false
open Go Go.Proofs.YtaeeaniofljmnaaGreatDoor.Sx
theorem b7z {l:List Int} {x:Int}:a8y l x=true↔x∈l:=by
 simp only[a8y,z1p]
 have:=@b78 x l
 constructor
 ·intro h; exact Classical.byContradiction fun hn=>by have:=this.2 hn; omega
 ·intro h; exact Int.not_lt.1 fun hn=>this.1 hn h
theorem b7q (P:List Pq) (L:List Int) (k:Int):∀ j,0≤a5s P L k j∧a5s P L k j≤j:=by
 intro j
 induction j with
 | zero=>simp[a5s]
 | succ j ih=>simp only[a5s]; cases((b8 (0,0) P j).2 == k && !L.contains (b8 (0,0) P j).1) <;> simp <;> omega
theorem c98 (P:List Pq) (b k:Int):∀ j,0≤a5t P b k j∧a5t P b k j≤j:=by
 intro j
 induction j with
 | zero=>simp[a5t]
 | succ j ih=>simp only[a5t]; cases((b8 (0,0) P j).2 == k && (b8 (0,0) P j).1 == b) <;> simp <;> omega
theorem c5c {P:List Pq} {L:List Int} {b:Int} (hb:b ∉ L) (k:Int):∀ j,a5s P (L ++ [b]) k j=a5s P L k j - a5t P b k j:=by
 intro j
 induction j with
 | zero=>rfl
 | succ j ih =>
  simp only[a5s,a5t]
  cases h2:(b8 (0,0) P j).2 == k
  ·simp[ih]
  ·by_cases h1:(b8 (0,0) P j).1=b
   ·have e1:(L ++ [b]).contains (b8 (0,0) P j).1=true:=by simp[h1]
    have e2:L.contains (b8 (0,0) P j).1=false:=by rw[h1]; simpa using hb
    have e3:((b8 (0,0) P j).1 == b)=true:=by simp[h1]
    rw[e1,e2,e3]
    simp[ih]; omega
   ·have e1:(L ++ [b]).contains (b8 (0,0) P j).1=L.contains (b8 (0,0) P j).1:=by
     rw[z3i]; simp[h1]
    have e3:((b8 (0,0) P j).1 == b)=false:=by simp[h1]
    rw[e1,e3]
    cases L.contains (b8 (0,0) P j).1 <;> simp[ih] <;> omega
theorem c92 {P:List Pq} {L:List Int} {k:Int}:∀ {j:Nat},a5s P L k j=0↔∀ i,i < j→(b8 (0,0) P i).2=k→(b8 (0,0) P i).1∈L:=by
 intro j
 induction j with
 | zero=>simp[a5s]
 | succ j ih =>
  have hle:=b7q P L k j
  simp only[a5s]
  cases h:((b8 (0,0) P j).2 == k && !L.contains (b8 (0,0) P j).1)
  ·rw[z0m,ih]
   constructor
   ·intro h1 i hi he
    by_cases e:i=j
    ·subst e
     rw[he] at h
     simpa using h
    ·exact h1 i (by omega) he
   ·exact fun h1 i hi=>h1 i (by omega)
  ·rw[z0f]
   constructor
   ·intro h1; omega
   ·intro h1
    simp only[z0d,beq_iff_eq,z0x] at h
    have:=h1 j (by omega) h.1
    simp[this] at h
theorem c91 {P:List Pq} {L:List Int} {k:Int}:wtL P L k=0↔∀ j,e9 P j k=true→j∈L:=by
 unfold wtL
 rw[c92]
 constructor
 ·intro h j hj
  obtain⟨i,hi,he⟩:=List.mem_iff_getElem.1 (a5n.1 hj)
  have:=h i hi (by rw[s9 _ _ _ hi,he])
  rwa [s9 _ _ _ hi,he] at this
 ·intro h i hi he
  refine h _ (a5n.2 ?_)
  rw[← he]
  have:b8 (0,0) P i∈P:=by rw[s9 _ _ _ hi]; exact z2r hi
  exact this
theorem b7t (c:Int→Bool) (E:List Ev):∀ m,-1≤p8 c E m∧p8 c E m < m:=by
 intro m
 induction m with
 | zero=>simp[p8]
 | succ m ih=>simp only[p8]; cases(c m && (decide (p8 c E m < 0) || decide ((evA E m).ag < (evA E (p8 c E m)).ag))) <;> simp <;> omega
theorem c96 {c:Int→Bool} {E:List Ev}:∀ {m:Nat},0≤p8 c E m→c (p8 c E m)=true:=by
 intro m
 induction m with
 | zero=>intro h; simp[p8] at h
 | succ m ih =>
  simp only[p8]
  cases h:(c m && (decide (p8 c E m < 0) || decide ((evA E m).ag < (evA E (p8 c E m)).ag)))
  ·exact ih
  ·intro _
   simp only[z0d] at h
   exact h.1
theorem c03 {c:Int→Bool} {E:List Ev} {i:Nat}:∀ {m:Nat},i < m→c i=true→0≤p8 c E m:=by
 intro m
 induction m with
 | zero=>intro h; omega
 | succ m ih =>
  intro hi hc
  simp only[p8]
  cases h:(c m && (decide (p8 c E m < 0) || decide ((evA E m).ag < (evA E (p8 c E m)).ag)))
  ·rw[z0m]
   by_cases e:i=m
   ·subst e
    rw[hc] at h
    simp at h
    exact h.1
   ·exact ih (by omega) hc
  ·simp
theorem c1n {n:Nat} {f:Pf} {L:List Int} (htr:∀ a b c,f a b=true→f b c=true→f a c=true) (hir:∀ a,f a a=false) (hs:Sup n f):∀(m:Nat) (i:Int),0≤i→i < n→i ∉ L→((List.range n).filter (fun j:Nat=>f j i && !L.contains (j:Int))).length≤m→∃ i:Int,0≤i∧i < n∧i ∉ L∧∀ j,f j i=true→j∈L:=by
 intro m
 induction m with
 | zero =>
  intro i h0 h1 hL hm
  refine⟨i,h0,h1,hL,fun j hj=>Classical.byContradiction fun hn=>?_⟩
  obtain⟨a,b,_,_⟩:=hs j i hj
  have:j.toNat∈(List.range n).filter (fun j:Nat=>f j i && !L.contains (j:Int)):=by
   refine List.mem_filter.2 ⟨by simp; omega,?_⟩
   rw[z1s a,hj]
   simpa using hn
  have:=List.length_pos_of_mem this
  omega
 | succ m ih =>
  intro i h0 h1 hL hm
  by_cases hall:∀ j,f j i=true→j∈L
  ·exact⟨i,h0,h1,hL,hall⟩
  ·obtain⟨j,hj⟩:=Classical.not_forall.1 hall
   obtain⟨hj,hn⟩:=Classical.not_imp.1 hj
   obtain⟨a,b,_,_⟩:=hs j i hj
   refine ih j a b hn ?_
   have:=a7w (l:=List.range n) (p:=fun x:Nat=>f x j && !L.contains (x:Int)) (q:=fun x:Nat=>f x i && !L.contains (x:Int)) (fun x _ hx=>by
    simp only[z0d] at hx ⊢
    exact⟨htr _ _ _ hx.1 hj,hx.2⟩) (y:=j.toNat) (by simp; omega) (by
    show(f (j.toNat:Int) j && _)=false
    rw[z1s a,hir]; rfl) (by
    show(f (j.toNat:Int) i && !L.contains (j.toNat:Int))=true
    rw[z1s a,hj]; simpa using hn)
   omega
theorem c53 {n:Nat} {L:List Int} (h:L.length < n):∃ k:Int,0≤k∧k < n∧k ∉ L:=Classical.byContradiction fun hn=>by
 have hall:∀ x∈(List.range n).map (fun i:Nat=>(i:Int)),x∈L:=fun x hx=>by
  obtain⟨i,hi,rfl⟩:=z2h.1 hx
  simp at hi
  exact Classical.byContradiction fun hx=>hn ⟨i,by omega,by omega,hx⟩
 have hnd:((List.range n).map (fun i:Nat=>(i:Int))).Nodup:=by
  rw[List.Nodup,List.pairwise_map]
  exact List.nodup_range.imp fun h e=>h (by omega)
 have:=b0g hnd hall
 simp at this
 omega
structure Ord (n:Nat) (P:List Pq):Prop where
 tr:∀ a b c,e9 P a b=true→e9 P b c=true→e9 P a c=true
 ir:∀ a,e9 P a a=false
 sup:Sup n (e9 P)
theorem Ord.ready {n:Nat} {P:List Pq} (h:Ord n P) {L:List Int} (hl:L.length < n):∃ i:Nat,i < n∧y6 P L i=true:=by
 obtain⟨k,k0,k1,k2⟩:=c53 hl
 obtain⟨i,i0,i1,i2,i3⟩:=c1n h.tr h.ir h.sup _ k k0 k1 k2 (z0q _)
 refine⟨i.toNat,by omega,?_⟩
 rw[z1s i0]
 have:a8y L i=false:=by cases hc:a8y L i; rfl; exact absurd (b7z.1 hc) i2
 simp only[y6,this,z2y,z1x,beq_iff_eq]
 exact c91.2 i3
theorem Ord.best {E:List Ev} {P:List Pq} (h:Ord E.length P) {L:List Int} (hl:L.length < E.length):0≤p8 (y6 P L) E E.length∧p8 (y6 P L) E E.length < E.length∧p8 (y6 P L) E E.length ∉ L:=by
 obtain⟨i,h1,h2⟩:=h.ready hl
 have h0:=c03 (E:=E) h1 h2
 refine⟨h0,(b7t _ _ _).2,fun hm=>?_⟩
 have:=c96 h0
 simp only[y6,z0d,z0x] at this
 rw[b7z.2 hm] at this
 cases this.2
theorem Ord.list {E:List Ev} {P:List Pq} (h:Ord E.length P):∀ {s:Nat},s≤E.length→(∀ i∈n6 P E s,0≤i∧i < E.length)∧(n6 P E s).Nodup:=by
 intro s
 induction s with
 | zero=>intro _; simp[n6]
 | succ s ih =>
  intro hs
  obtain⟨h1,h2⟩:=ih (by omega)
  obtain⟨b1,b2,b3⟩:=h.best (L:=n6 P E s) (by rw[a4f]; omega)
  refine⟨fun i hi=>?_,?_⟩
  ·simp only[n6,z0n,z0r] at hi
   rcases hi with hi | rfl
   ·exact h1 i hi
   ·exact⟨b1,b2⟩
  ·simp only[n6]
   rw[List.nodup_append]
   refine⟨h2,by simp,fun a ha b hb e=>?_⟩
   simp at hb
   subst hb
   subst e
   exact b3 ha
theorem c95 {n:Nat} {g:Pf} (hg:Sup n g) (h:b4e n (b9 n (wF g n))=true):Ord n (b9 n (wF g n)):=by
 have key:∀ a b,e9 (b9 n (wF g n)) a b=true↔Tr g a b:=fun a b=>by
  rw[b0d]
  constructor
  ·exact fun h=>(b7p hg).1 h.2.2.2.2
  ·intro h
   obtain⟨h1,h2,h3,h4⟩:=h.sup hg
   exact⟨h1,h2,h3,h4,(b7p hg).2 h⟩
 have sup:Sup n (e9 (b9 n (wF g n))):=fun a b hab=>((key a b).1 hab).sup hg
 refine⟨fun a b c h1 h2=>(key a c).2 (((key a b).1 h1).trans ((key b c).1 h2)),fun a=>?_,sup⟩
 cases haa:e9 (b9 n (wF g n)) a a
 ·rfl
 ·obtain⟨h0,h1,_,_⟩:=sup a a haa
  simp only[b4e,a28,z2k,z2q,z0x] at h
  have:=h a.toNat (by omega)
  rw[z1s h0] at this
  rw[(b7p sup).2 (.one haa)] at this
  cases this
theorem c9r (P:List Pq) (E:List Ev) (s:Nat):mkN (b8 0 (n6 P E s)) s=n6 P E s:=by
 have:=g8 0 (n6 P E s)
 rwa [a4f] at this
end Go.Proofs.YtaeeaniofljmnaaGreatDoor

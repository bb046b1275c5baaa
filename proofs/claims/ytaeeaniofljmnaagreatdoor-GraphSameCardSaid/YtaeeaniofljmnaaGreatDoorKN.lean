/-
  A part of the proof (KN).
-/
import Derived.Test.YtaeeaniofljmnaaGreatDoorK44a
namespace Go.Proofs.YtaeeaniofljmnaaGreatDoor
set_option linter.unusedSimpArgs false
set_option linter.unusedVariables false
open Go Go.Proofs.YtaeeaniofljmnaaGreatDoor.Sx
theorem b46 {l:List Int} {x:Int}:b05 l x=true↔x∈l:=by
 simp only[b05,z1m]
 have:=@a77 x l
 constructor
 ·intro h; exact Classical.byContradiction fun hn=>by have:=this.2 hn; omega
 ·intro h; exact Int.not_lt.1 fun hn=>this.1 hn h
theorem b9k (P:List Pq) (L:List Int) (k:Int):∀ j,0≤a6w P L k j∧a6w P L k j≤j:=by
 intro j
 induction j with
 | zero=>simp[a6w]
 | succ j ih=>simp only[a6w]; cases((b7 (0,0) P j).2 == k && !L.contains (b7 (0,0) P j).1) <;> simp <;> omega
theorem d1l (P:List Pq) (b k:Int):∀ j,0≤a6x P b k j∧a6x P b k j≤j:=by
 intro j
 induction j with
 | zero=>simp[a6x]
 | succ j ih=>simp only[a6x]; cases((b7 (0,0) P j).2 == k && (b7 (0,0) P j).1 == b) <;> simp <;> omega
theorem c7k {P:List Pq} {L:List Int} {b:Int} (hb:b ∉ L) (k:Int):∀ j,a6w P (L ++ [b]) k j=a6w P L k j - a6x P b k j:=by
 intro j
 induction j with
 | zero=>rfl
 | succ j ih =>
  simp only[a6w,a6x]
  cases h2:(b7 (0,0) P j).2 == k
  ·simp[ih]
  ·by_cases h1:(b7 (0,0) P j).1=b
   ·have e1:(L ++ [b]).contains (b7 (0,0) P j).1=true:=by simp[h1]
    have e2:L.contains (b7 (0,0) P j).1=false:=by rw[h1]; simpa using hb
    have e3:((b7 (0,0) P j).1 == b)=true:=by simp[h1]
    rw[e1,e2,e3]
    simp[ih]; omega
   ·have e1:(L ++ [b]).contains (b7 (0,0) P j).1=L.contains (b7 (0,0) P j).1:=by
     rw[z2j]; simp[h1]
    have e3:((b7 (0,0) P j).1 == b)=false:=by simp[h1]
    rw[e1,e3]
    cases L.contains (b7 (0,0) P j).1 <;> simp[ih] <;> omega
theorem d1h {P:List Pq} {L:List Int} {k:Int}:∀ {j:Nat},a6w P L k j=0↔∀ i,i < j→(b7 (0,0) P i).2=k→(b7 (0,0) P i).1∈L:=by
 intro j
 induction j with
 | zero=>simp[a6w]
 | succ j ih =>
  have hle:=b9k P L k j
  simp only[a6w]
  cases h:((b7 (0,0) P j).2 == k && !L.contains (b7 (0,0) P j).1)
  ·rw[z0l,ih]
   constructor
   ·intro h1 i hi he
    by_cases e:i=j
    ·subst e
     rw[he] at h
     simpa using h
    ·exact h1 i (by omega) he
   ·exact fun h1 i hi=>h1 i (by omega)
  ·rw[z0f]
   constructor
   ·intro h1; omega
   ·intro h1
    simp only[z0d,beq_iff_eq,z0v] at h
    have:=h1 j (by omega) h.1
    simp[this] at h
theorem c1x {P:List Pq} {L:List Int} {k:Int}:wtL P L k=0↔∀ j,f7 P j k=true→j∈L:=by
 unfold wtL
 rw[d1h]
 constructor
 ·intro h j hj
  obtain⟨i,hi,he⟩:=z2s.1 (a4p.1 hj)
  have:=h i hi (by rw[m7 _ _ _ hi,he])
  rwa [m7 _ _ _ hi,he] at this
 ·intro h i hi he
  refine h _ (a4p.2 ?_)
  rw[← he]
  have:b7 (0,0) P i∈P:=by rw[m7 _ _ _ hi]; exact z1v hi
  exact this
theorem a7o (c:Int→Bool) (E:List Ev):∀ m,-1≤n8 c E m∧n8 c E m < m:=by
 intro m
 induction m with
 | zero=>simp[n8]
 | succ m ih=>simp only[n8]; cases(c m && (decide (n8 c E m < 0) || decide ((evA E m).ag < (evA E (n8 c E m)).ag))) <;> simp <;> omega
theorem b7w {c:Int→Bool} {E:List Ev}:∀ {m:Nat},0≤n8 c E m→c (n8 c E m)=true:=by
 intro m
 induction m with
 | zero=>intro h; simp[n8] at h
 | succ m ih =>
  simp only[n8]
  cases h:(c m && (decide (n8 c E m < 0) || decide ((evA E m).ag < (evA E (n8 c E m)).ag)))
  ·exact ih
  ·intro _
   simp only[z0d] at h
   exact h.1
theorem c23 {c:Int→Bool} {E:List Ev} {i:Nat}:∀ {m:Nat},i < m→c i=true→0≤n8 c E m:=by
 intro m
 induction m with
 | zero=>intro h; omega
 | succ m ih =>
  intro hi hc
  simp only[n8]
  cases h:(c m && (decide (n8 c E m < 0) || decide ((evA E m).ag < (evA E (n8 c E m)).ag)))
  ·rw[z0l]
   by_cases e:i=m
   ·subst e
    rw[hc] at h
    simp at h
    exact h.1
   ·exact ih (by omega) hc
  ·simp
theorem b28 {c d:Int→Bool} {E:List Ev}:∀ {m:Nat},(∀ i:Nat,i < m→c i=d i)→n8 c E m=n8 d E m:=by
 intro m
 induction m with
 | zero=>intro _; rfl
 | succ m ih=>intro h; simp only[n8,ih fun i hi=>h i (by omega),h m (by omega)]
theorem c3n {n:Nat} {f:Pf} {L:List Int} (htr:∀ a b c,f a b=true→f b c=true→f a c=true) (hir:∀ a,f a a=false) (hs:Sup n f):∀(m:Nat) (i:Int),0≤i→i < n→i ∉ L→((List.range n).filter (fun j:Nat=>f j i && !L.contains (j:Int))).length≤m→∃ i:Int,0≤i∧i < n∧i ∉ L∧∀ j,f j i=true→j∈L:=by
 intro m
 induction m with
 | zero =>
  intro i h0 h1 hL hm
  refine⟨i,h0,h1,hL,fun j hj=>Classical.byContradiction fun hn=>?_⟩
  obtain⟨a,b,_,_⟩:=hs j i hj
  have:j.toNat∈(List.range n).filter (fun j:Nat=>f j i && !L.contains (j:Int)):=by
   refine List.mem_filter.2 ⟨by simp; omega,?_⟩
   rw[z1a a,hj]
   simpa using hn
  have:=List.length_pos_of_mem this
  omega
 | succ m ih =>
  intro i h0 h1 hL hm
  by_cases hall:∀ j,f j i=true→j∈L
  ·exact⟨i,h0,h1,hL,hall⟩
  ·obtain⟨j,hj⟩:=Classical.not_forall.1 hall
   obtain⟨hj,hn⟩:=Classical.not_imp.1 hj
   obtain⟨a,b,_,_⟩:=hs j i hj
   refine ih j a b hn ?_
   have:=a8z (l:=List.range n) (p:=fun x:Nat=>f x j && !L.contains (x:Int)) (q:=fun x:Nat=>f x i && !L.contains (x:Int)) (fun x _ hx=>by
    simp only[z0d] at hx ⊢
    exact⟨htr _ _ _ hx.1 hj,hx.2⟩) (y:=j.toNat) (by simp; omega) (by
    show(f (j.toNat:Int) j && _)=false
    rw[z1a a,hir]; rfl) (by
    show(f (j.toNat:Int) i && !L.contains (j.toNat:Int))=true
    rw[z1a a,hj]; simpa using hn)
   omega
theorem c7b {n:Nat} {L:List Int} (h:L.length < n):∃ k:Int,0≤k∧k < n∧k ∉ L:=Classical.byContradiction fun hn=>by
 have hall:∀ x∈(List.range n).map (fun i:Nat=>(i:Int)),x∈L:=fun x hx=>by
  obtain⟨i,hi,rfl⟩:=z2b.1 hx
  simp at hi
  exact Classical.byContradiction fun hx=>hn ⟨i,by omega,by omega,hx⟩
 have hnd:((List.range n).map (fun i:Nat=>(i:Int))).Nodup:=by
  rw[List.Nodup,List.pairwise_map]
  exact List.nodup_range.imp fun h e=>h (by omega)
 have:=a9s hnd hall
 simp at this
 omega
structure Ord (n:Nat) (P:List Pq):Prop where
 tr:∀ a b c,f7 P a b=true→f7 P b c=true→f7 P a c=true
 ir:∀ a,f7 P a a=false
 sup:Sup n (f7 P)
theorem Ord.ready {n:Nat} {P:List Pq} (h:Ord n P) {L:List Int} (hl:L.length < n):∃ i:Nat,i < n∧a07 P L i=true:=by
 obtain⟨k,k0,k1,k2⟩:=c7b hl
 obtain⟨i,i0,i1,i2,i3⟩:=c3n h.tr h.ir h.sup _ k k0 k1 k2 (z0r _)
 refine⟨i.toNat,by omega,?_⟩
 rw[z1a i0]
 have:b05 L i=false:=by cases hc:b05 L i; rfl; exact absurd (b46.1 hc) i2
 simp only[a07,this,z2z,z1r,beq_iff_eq]
 exact c1x.2 i3
theorem Ord.best {E:List Ev} {P:List Pq} (h:Ord E.length P) {L:List Int} (hl:L.length < E.length):0≤n8 (a07 P L) E E.length∧n8 (a07 P L) E E.length < E.length∧n8 (a07 P L) E E.length ∉ L:=by
 obtain⟨i,h1,h2⟩:=h.ready hl
 have h0:=c23 (E:=E) h1 h2
 refine⟨h0,(a7o _ _ _).2,fun hm=>?_⟩
 have:=b7w h0
 simp only[a07,z0d,z0v] at this
 rw[b46.2 hm] at this
 cases this.2
theorem Ord.list {E:List Ev} {P:List Pq} (h:Ord E.length P):∀ {s:Nat},s≤E.length→(∀ i∈q9 P E s,0≤i∧i < E.length)∧(q9 P E s).Nodup:=by
 intro s
 induction s with
 | zero=>intro _; simp[q9]
 | succ s ih =>
  intro hs
  obtain⟨h1,h2⟩:=ih (by omega)
  obtain⟨b1,b2,b3⟩:=h.best (L:=q9 P E s) (by rw[a34]; omega)
  refine⟨fun i hi=>?_,?_⟩
  ·simp only[q9,z0n,z0t] at hi
   rcases hi with hi | rfl
   ·exact h1 i hi
   ·exact⟨b1,b2⟩
  ·simp only[q9]
   rw[List.nodup_append]
   refine⟨h2,by simp,fun a ha b hb e=>?_⟩
   simp at hb
   subst hb
   subst e
   exact b3 ha
theorem b7r {n:Nat} {g:Pf} (hg:Sup n g) (h:a8o n (b9 n (wF g n))=true):Ord n (b9 n (wF g n)):=by
 have key:∀ a b,f7 (b9 n (wF g n)) a b=true↔Tr g a b:=fun a b=>by
  rw[a3k]
  constructor
  ·exact fun h=>(a9w hg).1 h.2.2.2.2
  ·intro h
   obtain⟨h1,h2,h3,h4⟩:=h.sup hg
   exact⟨h1,h2,h3,h4,(a9w hg).2 h⟩
 have sup:Sup n (f7 (b9 n (wF g n))):=fun a b hab=>((key a b).1 hab).sup hg
 refine⟨fun a b c h1 h2=>(key a c).2 (((key a b).1 h1).trans ((key b c).1 h2)),fun a=>?_,sup⟩
 cases haa:f7 (b9 n (wF g n)) a a
 ·rfl
 ·obtain⟨h0,h1,_,_⟩:=sup a a haa
  simp only[a8o,a30,z2c,z2q,z0v] at h
  have:=h a.toNat (by omega)
  rw[z1a h0] at this
  rw[(a9w sup).2 (.one haa)] at this
  cases this
theorem d2a (P:List Pq) (E:List Ev) (s:Nat):mkN (b7 0 (q9 P E s)) s=q9 P E s:=by
 have:=i7 0 (q9 P E s)
 rwa [a34] at this
end Go.Proofs.YtaeeaniofljmnaaGreatDoor

/-
  A part of the proof (JN).
-/
import Derived.Test.YtaeeaniofljmnaaGreatDoorJ44a
namespace Go.Proofs.YtaeeaniofljmnaaGreatDoor
set_option linter.unusedSimpArgs false
set_option linter.unusedVariables false
open Go Go.Proofs.YtaeeaniofljmnaaGreatDoor.Sx
theorem b3j {l:List Int} {x:Int}:a9l l x=true↔x∈l:=by
 simp only[a9l,z1i]
 have:=@a88 x l
 constructor
 ·intro h; exact Classical.byContradiction fun hn=>by have:=this.2 hn; omega
 ·intro h; exact Int.not_lt.1 fun hn=>this.1 hn h
theorem b8p (P:List Pq) (L:List Int) (k:Int):∀ j,0≤a6n P L k j∧a6n P L k j≤j:=by
 intro j
 induction j with
 | zero=>simp[a6n]
 | succ j ih=>simp only[a6n]; cases((b6 (0,0) P j).2 == k && !L.contains (b6 (0,0) P j).1) <;> simp <;> omega
theorem d0f (P:List Pq) (b k:Int):∀ j,0≤a6o P b k j∧a6o P b k j≤j:=by
 intro j
 induction j with
 | zero=>simp[a6o]
 | succ j ih=>simp only[a6o]; cases((b6 (0,0) P j).2 == k && (b6 (0,0) P j).1 == b) <;> simp <;> omega
theorem c6l {P:List Pq} {L:List Int} {b:Int} (hb:b ∉ L) (k:Int):∀ j,a6n P (L ++ [b]) k j=a6n P L k j - a6o P b k j:=by
 intro j
 induction j with
 | zero=>rfl
 | succ j ih =>
  simp only[a6n,a6o]
  cases h2:(b6 (0,0) P j).2 == k
  ·simp[ih]
  ·by_cases h1:(b6 (0,0) P j).1=b
   ·have e1:(L ++ [b]).contains (b6 (0,0) P j).1=true:=by simp[h1]
    have e2:L.contains (b6 (0,0) P j).1=false:=by rw[h1]; simpa using hb
    have e3:((b6 (0,0) P j).1 == b)=true:=by simp[h1]
    rw[e1,e2,e3]
    simp[ih]; omega
   ·have e1:(L ++ [b]).contains (b6 (0,0) P j).1=L.contains (b6 (0,0) P j).1:=by
     rw[z3b]; simp[h1]
    have e3:((b6 (0,0) P j).1 == b)=false:=by simp[h1]
    rw[e1,e3]
    cases L.contains (b6 (0,0) P j).1 <;> simp[ih] <;> omega
theorem d0b {P:List Pq} {L:List Int} {k:Int}:∀ {j:Nat},a6n P L k j=0↔∀ i,i < j→(b6 (0,0) P i).2=k→(b6 (0,0) P i).1∈L:=by
 intro j
 induction j with
 | zero=>simp[a6n]
 | succ j ih =>
  have hle:=b8p P L k j
  simp only[a6n]
  cases h:((b6 (0,0) P j).2 == k && !L.contains (b6 (0,0) P j).1)
  ·rw[z0l,ih]
   constructor
   ·intro h1 i hi he
    by_cases e:i=j
    ·subst e
     rw[he] at h
     simpa using h
    ·exact h1 i (by omega) he
   ·exact fun h1 i hi=>h1 i (by omega)
  ·rw[z0f]
   constructor
   ·intro h1; omega
   ·intro h1
    simp only[z0d,beq_iff_eq,z0v] at h
    have:=h1 j (by omega) h.1
    simp[this] at h
theorem c11 {P:List Pq} {L:List Int} {k:Int}:wtL P L k=0↔∀ j,d7 P j k=true→j∈L:=by
 unfold wtL
 rw[d0b]
 constructor
 ·intro h j hj
  obtain⟨i,hi,he⟩:=z3u.1 (a4j.1 hj)
  have:=h i hi (by rw[o6 _ _ _ hi,he])
  rwa [o6 _ _ _ hi,he] at this
 ·intro h i hi he
  refine h _ (a4j.2 ?_)
  rw[← he]
  have:b6 (0,0) P i∈P:=by rw[o6 _ _ _ hi]; exact z1r hi
  exact this
theorem a7f (c:Int→Bool) (E:List Ev):∀ m,-1≤m5 c E m∧m5 c E m < m:=by
 intro m
 induction m with
 | zero=>simp[m5]
 | succ m ih=>simp only[m5]; cases(c m && (decide (m5 c E m < 0) || decide ((evA E m).ag < (evA E (m5 c E m)).ag))) <;> simp <;> omega
theorem b79 {c:Int→Bool} {E:List Ev}:∀ {m:Nat},0≤m5 c E m→c (m5 c E m)=true:=by
 intro m
 induction m with
 | zero=>intro h; simp[m5] at h
 | succ m ih =>
  simp only[m5]
  cases h:(c m && (decide (m5 c E m < 0) || decide ((evA E m).ag < (evA E (m5 c E m)).ag)))
  ·exact ih
  ·intro _
   simp only[z0d] at h
   exact h.1
theorem c18 {c:Int→Bool} {E:List Ev} {i:Nat}:∀ {m:Nat},i < m→c i=true→0≤m5 c E m:=by
 intro m
 induction m with
 | zero=>intro h; omega
 | succ m ih =>
  intro hi hc
  simp only[m5]
  cases h:(c m && (decide (m5 c E m < 0) || decide ((evA E m).ag < (evA E (m5 c E m)).ag)))
  ·rw[z0l]
   by_cases e:i=m
   ·subst e
    rw[hc] at h
    simp at h
    exact h.1
   ·exact ih (by omega) hc
  ·simp
theorem b1k {c d:Int→Bool} {E:List Ev}:∀ {m:Nat},(∀ i:Nat,i < m→c i=d i)→m5 c E m=m5 d E m:=by
 intro m
 induction m with
 | zero=>intro _; rfl
 | succ m ih=>intro h; simp only[m5,ih fun i hi=>h i (by omega),h m (by omega)]
theorem c2t {n:Nat} {f:Pf} {L:List Int} (htr:∀ a b c,f a b=true→f b c=true→f a c=true) (hir:∀ a,f a a=false) (hs:Sup n f):∀(m:Nat) (i:Int),0≤i→i < n→i ∉ L→((List.range n).filter (fun j:Nat=>f j i && !L.contains (j:Int))).length≤m→∃ i:Int,0≤i∧i < n∧i ∉ L∧∀ j,f j i=true→j∈L:=by
 intro m
 induction m with
 | zero =>
  intro i h0 h1 hL hm
  refine⟨i,h0,h1,hL,fun j hj=>Classical.byContradiction fun hn=>?_⟩
  obtain⟨a,b,_,_⟩:=hs j i hj
  have:j.toNat∈(List.range n).filter (fun j:Nat=>f j i && !L.contains (j:Int)):=by
   refine List.mem_filter.2 ⟨by simp; omega,?_⟩
   rw[z1q a,hj]
   simpa using hn
  have:=List.length_pos_of_mem this
  omega
 | succ m ih =>
  intro i h0 h1 hL hm
  by_cases hall:∀ j,f j i=true→j∈L
  ·exact⟨i,h0,h1,hL,hall⟩
  ·obtain⟨j,hj⟩:=Classical.not_forall.1 hall
   obtain⟨hj,hn⟩:=Classical.not_imp.1 hj
   obtain⟨a,b,_,_⟩:=hs j i hj
   refine ih j a b hn ?_
   have:=a8j (l:=List.range n) (p:=fun x:Nat=>f x j && !L.contains (x:Int)) (q:=fun x:Nat=>f x i && !L.contains (x:Int)) (fun x _ hx=>by
    simp only[z0d] at hx ⊢
    exact⟨htr _ _ _ hx.1 hj,hx.2⟩) (y:=j.toNat) (by simp; omega) (by
    show(f (j.toNat:Int) j && _)=false
    rw[z1q a,hir]; rfl) (by
    show(f (j.toNat:Int) i && !L.contains (j.toNat:Int))=true
    rw[z1q a,hj]; simpa using hn)
   omega
theorem c6c {n:Nat} {L:List Int} (h:L.length < n):∃ k:Int,0≤k∧k < n∧k ∉ L:=Classical.byContradiction fun hn=>by
 have hall:∀ x∈(List.range n).map (fun i:Nat=>(i:Int)),x∈L:=fun x hx=>by
  obtain⟨i,hi,rfl⟩:=z2b.1 hx
  simp at hi
  exact Classical.byContradiction fun hx=>hn ⟨i,by omega,by omega,hx⟩
 have hnd:((List.range n).map (fun i:Nat=>(i:Int))).Nodup:=by
  rw[List.Nodup,List.pairwise_map]
  exact List.nodup_range.imp fun h e=>h (by omega)
 have:=a98 hnd hall
 simp at this
 omega
structure Ord (n:Nat) (P:List Pq):Prop where
 tr:∀ a b c,d7 P a b=true→d7 P b c=true→d7 P a c=true
 ir:∀ a,d7 P a a=false
 sup:Sup n (d7 P)
theorem Ord.ready {n:Nat} {P:List Pq} (h:Ord n P) {L:List Int} (hl:L.length < n):∃ i:Nat,i < n∧z7 P L i=true:=by
 obtain⟨k,k0,k1,k2⟩:=c6c hl
 obtain⟨i,i0,i1,i2,i3⟩:=c2t h.tr h.ir h.sup _ k k0 k1 k2 (z0q _)
 refine⟨i.toNat,by omega,?_⟩
 rw[z1q i0]
 have:a9l L i=false:=by cases hc:a9l L i; rfl; exact absurd (b3j.1 hc) i2
 simp only[z7,this,z3c,z1y,beq_iff_eq]
 exact c11.2 i3
theorem Ord.best {E:List Ev} {P:List Pq} (h:Ord E.length P) {L:List Int} (hl:L.length < E.length):0≤m5 (z7 P L) E E.length∧m5 (z7 P L) E E.length < E.length∧m5 (z7 P L) E E.length ∉ L:=by
 obtain⟨i,h1,h2⟩:=h.ready hl
 have h0:=c18 (E:=E) h1 h2
 refine⟨h0,(a7f _ _ _).2,fun hm=>?_⟩
 have:=b79 h0
 simp only[z7,z0d,z0v] at this
 rw[b3j.2 hm] at this
 cases this.2
theorem Ord.list {E:List Ev} {P:List Pq} (h:Ord E.length P):∀ {s:Nat},s≤E.length→(∀ i∈o9 P E s,0≤i∧i < E.length)∧(o9 P E s).Nodup:=by
 intro s
 induction s with
 | zero=>intro _; simp[o9]
 | succ s ih =>
  intro hs
  obtain⟨h1,h2⟩:=ih (by omega)
  obtain⟨b1,b2,b3⟩:=h.best (L:=o9 P E s) (by rw[a2x]; omega)
  refine⟨fun i hi=>?_,?_⟩
  ·simp only[o9,z0o,z0r] at hi
   rcases hi with hi | rfl
   ·exact h1 i hi
   ·exact⟨b1,b2⟩
  ·simp only[o9]
   rw[List.nodup_append]
   refine⟨h2,by simp,fun a ha b hb e=>?_⟩
   simp at hb
   subst hb
   subst e
   exact b3 ha
theorem b74 {n:Nat} {g:Pf} (hg:Sup n g) (h:a8b n (b7 n (wF g n))=true):Ord n (b7 n (wF g n)):=by
 have key:∀ a b,d7 (b7 n (wF g n)) a b=true↔Tr g a b:=fun a b=>by
  rw[a3c]
  constructor
  ·exact fun h=>(a9c hg).1 h.2.2.2.2
  ·intro h
   obtain⟨h1,h2,h3,h4⟩:=h.sup hg
   exact⟨h1,h2,h3,h4,(a9c hg).2 h⟩
 have sup:Sup n (d7 (b7 n (wF g n))):=fun a b hab=>((key a b).1 hab).sup hg
 refine⟨fun a b c h1 h2=>(key a c).2 (((key a b).1 h1).trans ((key b c).1 h2)),fun a=>?_,sup⟩
 cases haa:d7 (b7 n (wF g n)) a a
 ·rfl
 ·obtain⟨h0,h1,_,_⟩:=sup a a haa
  simp only[a8b,a2t,z2h,z2m,z0v] at h
  have:=h a.toNat (by omega)
  rw[z1q h0] at this
  rw[(a9c sup).2 (.one haa)] at this
  cases this
theorem d16 (P:List Pq) (E:List Ev) (s:Nat):mkN (b6 0 (o9 P E s)) s=o9 P E s:=by
 have:=g7 0 (o9 P E s)
 rwa [a2x] at this
end Go.Proofs.YtaeeaniofljmnaaGreatDoor

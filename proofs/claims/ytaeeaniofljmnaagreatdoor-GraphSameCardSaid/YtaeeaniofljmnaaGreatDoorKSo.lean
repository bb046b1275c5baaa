/-
  A part of the proof (KSo).
-/
import Derived.Test.YtaeeaniofljmnaaGreatDoorKLaw
import Derived.Test.YtaeeaniofljmnaaGreatDoorK57
import Derived.Test.YtaeeaniofljmnaaGreatDoorK51a
namespace Go.Proofs.YtaeeaniofljmnaaGreatDoor
set_option linter.unusedSimpArgs false
set_option linter.unusedVariables false
open Go Go.Proofs.YtaeeaniofljmnaaGreatDoor.Sx
section
variable {E:List Ev} {R:List Int} {M:List (List Int)}
theorem c9j {P:List Pq} {L:List Int} {k:Int}:b0s P L k=true↔∀ j,f7 P j k=true→j∈L:=by
 unfold b0s
 rw[x4]
 constructor
 ·intro h j hj
  obtain⟨i,hi,he⟩:=z2s.1 (a4p.1 hj)
  have:=h i hi
  rw[rdG,z0s,m7 _ _ _ hi,he] at this
  refine Classical.byContradiction fun hn=>?_
  rw[beq_self_eq_true,decide_eq_true (a77.2 hn)] at this
  cases this
 ·intro h i hi
  rw[rdG,z0s,m7 _ _ _ hi]
  cases he:(P[i].2 == k)
  ·rfl
  ·have hm:=h P[i].1 (a4p.2 (by rw[← (by simpa using he:P[i].2=k)]; exact z1v hi))
   have:¬ w9 L P[i].1 < 0:=fun hn=>a77.1 hn hm
   rw[decide_eq_false this]; rfl
theorem b59 {P:List Pq} {L:List Int} {k:Int}:a2b P L k=true↔k ∉ L∧∀ j,f7 P j k=true→j∈L:=by
 rw[a2b,z0d,z1m,a77,c9j]
theorem c9k {P:List Pq} {L:List Int} {k:Int}:a07 P L k=true↔k ∉ L∧∀ j,f7 P j k=true→j∈L:=by
 rw[a07,z0d,beq_iff_eq,c1x,z0v,and_comm]
 refine and_congr_left' ?_
 rw[← b46,Bool.not_eq_true]
theorem b42 {n:Nat} {f:Pf} {a b:Int}:f7 (a61 n f) a b=true↔Tr (f7 (b9 n f)) a b:=by
 have hs:Sup n (f7 (b9 n f)):=fun a b h=>by have:=a3k.1 h; exact⟨this.1,this.2.1,this.2.2.1,this.2.2.2.1⟩
 rw[a61,a3k]
 constructor
 ·exact fun h=>(a9w hs).1 h.2.2.2.2
 ·intro h
  obtain⟨h1,h2,h3,h4⟩:=h.sup hs
  exact⟨h1,h2,h3,h4,(a9w hs).2 h⟩
def Dn (f:Pf) (L:List Int):Prop:=∀ i∈L,∀ j,Tr f j i→j∈L
theorem Dn.pre {f:Pf} {L:List Int} (h:Dn f L) {i:Int}:(∀ j,Tr f j i→j∈L)↔∀ j,f j i=true→j∈L:=by
 constructor
 ·exact fun h1 j hj=>h1 j (.one hj)
 ·intro h1 j hj
  cases hj with
  | one e=>exact h1 _ e
  | tail a e=>exact h _ (h1 _ e) _ a
theorem Dn.add {f:Pf} {L:List Int} (h:Dn f L) {b:Int} (hb:∀ j,f j b=true→j∈L):Dn f (L ++ [b]):=fun i hi j hj=>by
 simp only[z0n,z0t] at hi ⊢
 rcases hi with hi | rfl
 ·exact .inl (h i hi j hj)
 ·exact .inl (h.pre.2 hb j hj)
theorem b5a {n:Nat} {f:Pf} {L:List Int} (h:Dn (f7 (b9 n f)) L) (k:Int):a07 (a61 n f) L k=a2b (b9 n f) L k:=by
 rw[z2j,c9k,b59]
 refine and_congr_right fun _=>?_
 rw[← h.pre]
 exact⟨fun h1 j hj=>h1 j (b42.2 hj),fun h1 j hj=>h1 j (b42.1 hj)⟩
theorem c0u {f:Pf} (ho:Ord E.length (a61 E.length f)):∀ s,s≤E.length→t7 (b9 E.length f) E s=q9 (a61 E.length f) E s∧Dn (f7 (b9 E.length f)) (q9 (a61 E.length f) E s):=by
 intro s
 induction s with
 | zero=>intro _; exact⟨rfl,fun i hi=>by cases hi⟩
 | succ s ih =>
  intro hs
  obtain⟨h1,h2⟩:=ih (by omega)
  have e:n8 (a2b (b9 E.length f) (q9 (a61 E.length f) E s)) E E.length=n8 (a07 (a61 E.length f) (q9 (a61 E.length f) E s)) E E.length:=b28 fun i _=>(b5a h2 i).symm
  refine⟨by rw[t7,q9,h1,e],?_⟩
  rw[q9]
  refine h2.add ?_
  have:=b7w (ho.best (L:=q9 (a61 E.length f) E s) (by rw[a34]; omega)).1
  rw[b5a h2] at this
  exact(b59.1 this).2
theorem d72 {f:Pf} (ho:Ord E.length (a61 E.length f)):okQ (b9 E.length f) E=true:=by
 unfold okQ
 rw[x4]
 intro s hs
 have h:=c0u ho s (by omega)
 have hb:=ho.best (L:=q9 (a61 E.length f) E s) (by rw[a34]; omega)
 rw[okS,z0s,h.1,b28 fun i _=>(b5a h.2 i).symm]
 exact decide_eq_true hb.1
theorem c92 {f:Pf} {n:Nat} (hn:n=E.length) (h:j8 (okS (b9 n f) E) n=true):∀ s,s≤n→(∀ i∈t7 (b9 n f) E s,0≤i∧i < n)∧(t7 (b9 n f) E s).Nodup∧Dn (f7 (b9 n f)) (t7 (b9 n f) E s)∧∀ i∈t7 (b9 n f) E s,¬ Tr (f7 (b9 n f)) i i:=by
 intro s
 induction s with
 | zero=>intro _; exact⟨fun i hi=>(by cases hi),List.nodup_nil,fun i hi=>(by cases hi),fun i hi=>(by cases hi)⟩
 | succ s ih =>
  intro hs
  obtain⟨h1,h2,h3,h4⟩:=ih (by omega)
  have h0:=x4.1 h s (by omega)
  rw[okS,z0s,z1m] at h0
  have hl:=(a7o (a2b (b9 n f) (t7 (b9 n f) E s)) E E.length).2
  have hc:=b59.1 (b7w h0)
  rw[t7]
  generalize n8 (a2b (b9 n f) (t7 (b9 n f) E s)) E E.length=b at *
  refine⟨fun i hi=>?_,?_,h3.add hc.2,fun i hi=>?_⟩
  ·simp only[z0n,z0t] at hi
   rcases hi with hi | rfl
   ·exact h1 i hi
   ·omega
  ·rw[List.nodup_append]
   refine⟨h2,by simp,fun a ha c hc2 e=>?_⟩
   simp at hc2
   subst hc2
   subst e
   exact hc.1 ha
  ·simp only[z0n,z0t] at hi
   rcases hi with hi | rfl
   ·exact h4 i hi
   ·exact fun ht=>hc.1 (h3.pre.2 hc.2 _ ht)
theorem b0b {L:List Int} {n:Nat} (hl:L.length=n) (hn:L.Nodup) (hb:∀ i∈L,0≤i∧i < n) {k:Int} (h0:0≤k) (h1:k < n):k∈L:=Classical.byContradiction fun hk=>by
 have:=a9s (L:=k :: L) (W:=(List.range n).map (fun i:Nat=>(i:Int))) (z2o.2 ⟨hk,hn⟩) fun x hx=>by
  have hx2:0≤x∧x < n:=by rcases z0q.1 hx with rfl | hx; exact⟨h0,h1⟩; exact hb x hx
  exact z2b.2 ⟨x.toNat,by simp; omega,by omega⟩
 simp at this
 omega
theorem d6f {f:Pf}:okQ (b9 E.length f) E=a8o E.length (a61 E.length f):=by
 have hs:Sup E.length (f7 (b9 E.length f)):=fun a b h=>by have:=a3k.1 h; exact⟨this.1,this.2.1,this.2.2.1,this.2.2.2.1⟩
 cases ha:a8o E.length (a61 E.length f)
 ·cases ho:okQ (b9 E.length f) E
  ·rfl
  ·exfalso
   obtain⟨h1,h2,_,h4⟩:=c92 rfl ho E.length (z0r _)
   have:a8o E.length (a61 E.length f)=true:=by
    simp only[a8o,a30,z2c,z2q,z0v]
    intro a hal
    cases hw:wF (f7 (a61 E.length f)) E.length a a
    ·rfl
    ·exfalso
     have hs2:Sup E.length (f7 (a61 E.length f)):=fun a b h=>(b42.1 h).sup hs
     have ht:=(a9w hs2).1 hw
     have ht2:Tr (f7 (b9 E.length f)) a a:=by
      have:∀ p q,Tr (f7 (a61 E.length f)) p q→Tr (f7 (b9 E.length f)) p q:=fun p q h=>by
       induction h with
       | one e=>exact b42.1 e
       | tail _ e ih=>exact ih.trans (b42.1 e)
      exact this _ _ ht
     exact h4 a (b0b (a4n _ _ _) h2 h1 (by omega) (by omega)) ht2
   rw[this] at ha
   cases ha
 ·exact d72 (b7r hs ha)
theorem d3o:l9 ⟨#[112,114,115]⟩ E R M=fun i k=>poG E R M i k || rfG E R M i k || syG E R M i k:=rfl
theorem d75 (hv:b8 E R M=true):d9 E R M=a61 E.length (l9 ⟨#[112,114,115]⟩ E R M):=by
 rw[d3o,d9,a6j]
 exact d6j (fun _ _ _ _ _ _=>rfl) (fun _ _ _ _ _ _=>rfl) (e1s (vg hv))
theorem c3t {L:List Int} (hd:L.Nodup) (hb:∀ i∈L,0≤i) {x:Int} (h:x∈L):toF L x=w9 L x:=by
 obtain⟨j,hj,hx⟩:=b35 h
 rw[toF,toM,d2o hx hj (fun i h1 h2 e=>by have:=a8k hd h2 hj (e.trans hx.symm); omega),a3v (fun q hq e=>by have:=a8k hd (by omega) hj (e.trans hx.symm); omega) hj hx]
 rfl
theorem c3u {L:List Int} {x:Int} (h:x ∉ L) (hx:x = -1∨x = -2):toF L x=x:=by
 rw[toF,toM,c99 fun j hj e=>h (by rw[← e]; exact c0n hj)]
 rcases hx with rfl | rfl <;> rfl
theorem e1p {L:List Int} {n:Nat} (hl:L.length=n) (hd:L.Nodup) (hb:∀ i∈L,0≤i∧i < n) {x:Int} (hx:x = -1∨x = -2∨0≤x∧x < n):psO L x=toF L x:=by
 unfold psO
 rcases hx with hx | hx | hx
 ·rw[c3u (fun h=>by have:=hb _ h; omega) (.inl hx),hx]; rfl
 ·rw[c3u (fun h=>by have:=hb _ h; omega) (.inr hx),hx]; rfl
 ·rw[c3t hd (fun i hi=>(hb i hi).1) (b0b hl hd hb hx.1 hx.2),decide_eq_true hx.1]; rfl
theorem b5r (h:VG E R M) {i:Int} (h0:0≤i) (h1:i < E.length):inA R i = -1∨inA R i = -2∨0≤inA R i∧inA R i < E.length:=by
 cases hr:rdE (evA E i)
 ·exact .inr (.inl (d0v h h0 h1 hr))
 ·rcases d0w h h0 h1 hr with h2 | h2
  ·exact .inl h2
  ·exact .inr (.inr h2.1)
theorem c9v {r:List Int} (hr:r∈M):∃ o:Nat,o < M.length∧x8 M o=r:=by
 obtain⟨o,ho,rfl⟩:=z2s.1 hr
 exact⟨o,ho,by unfold x8; rw[z0s,m7 [] M o ho]⟩
theorem d6z (hs:SzG E M):c2u E R M=c2w E R M:=by
 cases hv:b8 E R M
 ·simp only[c2u,c2w,j6,a2f,d6,s6,hv,Bool.false_and,d5,z0l]
 ·have hp:=d75 hv
  have hk:okQ (uQ E R M) E=a8o E.length (d9 E R M):=by rw[hp]; exact d6f
  cases ha:a8o E.length (d9 E R M)
  ·rw[ha] at hk
   simp only[c2u,c2w,j6,a2f,d6,s6,hv,hk,ha,z0y,d5,z0f,z0l]
  ·rw[ha] at hk
   have ho:Ord E.length (d9 E R M):=by
    rw[hp] at ha ⊢
    exact b7r (fun a b h=>by have:=a3k.1 h; exact⟨this.1,this.2.1,this.2.2.1,this.2.2.2.1⟩) ha
   have hO:d7 E R M=w8 E R M:=by
    rw[d7,w8,hp]
    rw[hp] at ho
    exact(c0u ho _ (z0r _)).1
   obtain⟨b1,b2⟩:=ho.list (z0r E.length)
   have hl:(w8 E R M).length=E.length:=a34 _ _ _
   have hR:orR R (w8 E R M)=arR R (w8 E R M):=List.map_congr_left fun i hi=>e1p hl b2 b1 (b5r (vg hv) (b1 i hi).1 (b1 i hi).2)
   have hM:orM M (w8 E R M)=arM M (w8 E R M):=List.map_congr_left fun r hr=>List.map_congr_left fun x hx=>by
    obtain⟨o,h1,rfl⟩:=c9v hr
    have:=((vg hv).row o h1).2 x hx
    exact(c3t b2 (fun i hi=>(b1 i hi).1) (b0b hl b2 b1 this.1.1 this.1.2)).symm
   simp only[c2u,c2w,j6,a2f,d6,s6,hv,hk,ha,z0y,d5,z0f,hO,hR,hM]
end
set_option maxRecDepth 100000
def n2E (E:List Ev) (R:List Int) (M:List (List Int)):List Ev:=d5 (d6 E R M) (arE E (d7 E R M))
def n2R (E:List Ev) (R:List Int) (M:List (List Int)):List Int:=d5 (d6 E R M) (orR R (d7 E R M))
def n2M (E:List Ev) (R:List Int) (M:List (List Int)):List (List Int):=d5 (d6 E R M) (orM M (d7 E R M))
theorem c59 (a:Int):j5 a a=0:=c44 (by omega) (by omega)
theorem c5e (e:Ev):a5c e e=true:=by simp[a5c]
theorem c4m {E:List Ev} {R:List Int} {M:List (List Int)} (h:SzG E M):j6 E R M=a2f E R M∧n2E E R M=noE E R M∧n2R E R M=noR E R M∧n2M E R M=noM E R M:=by
 have:=d6z (R:=R) h
 simp only[c2u,c2w,QV.gr.injEq,z0a] at this
 exact this
def m6 (X:List Ev):Nat→List Int
 | 0=>[]
 | i + 1=>m6 X i ++ a3c (evA X i)
def lCt (X:List Ev) (t s e:Nat):LAnn:={ X:=Nat,inv:=fun i=>i≤X.length,slots:=fun i=>[(t,.i .i64 (i:Int)),(s,.sl e (m6 X i).length)],mem:=fun i=>[(e,.oarr 3 (m6 X i).length (e8 (m6 X i)))],mu:=fun i=>X.length - i,kill:=[e] }
def a89 (M M':List (List Int)) (x:Nat):Int:=o9 j5 (t8 M x) (t8 M' x)
def b80 (e:Int) (X:List Ev) (R:List Int) (M:List (List Int)) (e':Int) (X':List Ev) (R':List Int) (M':List (List Int)):Int:=
 bif e != 0 || e' != 0 then(bif e == 0 then 1 else bif e' == 0 then -1 else 0) else bif o9 j5 (m6 X X.length) (m6 X' X'.length) != 0 then o9 j5 (m6 X X.length) (m6 X' X'.length) else bif o9 j5 R R' != 0 then o9 j5 R R' else x5 (a89 M M') 8
def y7 (E:List Ev) (R:List Int) (M:List (List Int)) (E':List Ev) (R':List Int) (M':List (List Int)):Int:=b80 (j6 E R M) (n2E E R M) (n2R E R M) (n2M E R M) (j6 E' R' M') (n2E E' R' M') (n2R E' R' M') (n2M E' R' M')
def nm43 (E:List Ev) (R:List Int) (M:List (List Int)) (E':List Ev) (R':List Int) (M':List (List Int)):List (Option AV):=c90 E R M E' R' M' ++ [none,none,some (.es (n2E E R M)),some (.is (n2R E R M)),some (.rs (n2M E R M)),none,some (.es (n2E E' R' M')),some (.is (n2R E' R' M')),some (.rs (n2M E' R' M')),none,some (.is (m6 (n2E E R M) (n2E E R M).length)),some (.is (m6 (n2E E' R' M') (n2E E' R' M').length))]
def d0f:SpP:=fun
 | [.ag [.es E,.is R,.rs M],.ag [.es E',.is R',.rs M']]=>some ([SzG E M,SzG E' M'],plI (y7 E R M E' R' M'))
 | _=>none
def d5b (nm:List (Option AV)):Nat × (List MBlk→List SV→Option AR):=(43,q6 EL none nm [PG,PG] d0f)
def b4m (M M':List (List Int)) (t:Nat):LAnn:=s8 8 t (fun j=>x5 (a89 M M') j=0) (fun _=>[]) []
def toL (E E':List Ev):List Int:=E.map (n7 E')
def a63 (E E':List Ev) (i:Int):Bool:=!decide (n7 E' (evA E i) < 0)
def frL (R L:List Int) (i:Int):Int:=bif decide (inA R i ≥ 0) then inA L (inA R i) else inA R i
def c3m (E:List Ev) (R:List Int) (M:List (List Int)) (E':List Ev) (R':List Int) (M':List (List Int)) (L:List Int) (i k:Int):Bool:=(syG E R M i k != syG E' R' M' (inA L i) (inA L k)) || (moG E R M i k != moG E' R' M' (inA L i) (inA L k))
def a5q (E:List Ev) (R:List Int) (M:List (List Int)) (E':List Ev) (R':List Int) (M':List (List Int)) (L:List Int) (i k:Int):Bool:=!c3m E R M E' R' M' L i k
def a6i (R R' L:List Int) (i:Int):Bool:=!(frL R L i != inA R' (inA L i))
def a5p (E:List Ev) (R:List Int) (M:List (List Int)) (E':List Ev) (R':List Int) (M':List (List Int)) (L:List Int) (i:Int):Bool:=a6i R R' L i && j8 (a5q E R M E' R' M' L i) E.length
def sm0 (E:List Ev) (R:List Int) (M:List (List Int)) (E':List Ev) (R':List Int) (M':List (List Int)):Bool:=!b8 E R M || !b8 E' R' M' || (E.length:Int) != (E'.length:Int)
def sm2 (E:List Ev) (R:List Int) (M:List (List Int)) (E':List Ev) (R':List Int) (M':List (List Int)):Bool:=!sm0 E R M E' R' M' && (j8 (a63 E E') E.length && j8 (a5p E R M E' R' M' (toL E E')) E.length)
def d7v:SpP:=fun
 | [.ag [.es E,.is R,.rs M],.ag [.es E',.is R',.rs M']]=>some ([SzG E M,SzG E' M'],plB (sm2 E R M E' R' M'))
 | _=>none
def kSm2 (nm:List (Option AV)):Nat × (List MBlk→List SV→Option AR):=(41,q6 EL none nm [PG,PG] d7v)
def lS1 (E E':List Ev) (t s e:Nat):LAnn:={ X:=Nat,inv:=fun i=>i≤E.length∧j8 (a63 E E') i=true,slots:=fun i=>[(t,.i .i64 (i:Int)),(s,.sl e i)],mem:=fun i=>[(e,.oarr 3 i (e8 (mpA (n7 E') e0 E i)))],mu:=fun i=>E.length - i,kill:=[e] }
def lS2 (n:Nat) (f:Int→Bool) (t:Nat):LAnn:=lAl f n t
def lS3 (n:Nat) (f:Int→Bool) (g:Int→Int→Bool) (t:Nat):PLoop:=⟨Nat,fun i=>{ X:=Nat,inv:=fun k=>k≤n∧i < n∧f i=true∧j8 (g i) k=true,slots:=fun k=>[(t,.i .i64 (k:Int))],mem:=fun _=>[],mu:=fun k=>n - k,kill:=[] }⟩
def at1 (E':List Ev) (e:Ev):Option Int:=nbM E' (pk e.ag e.ix)
def toK (E':List Ev) (e:Ev):Int:=z8 (at1 E' e)
def b0f (E E':List Ev) (i:Int):Bool:=!(!isS (at1 E' (evA E i)) || !a5c (evA E' (toK E' (evA E i))) (evA E i))
def L1 (E E':List Ev):List Int:=E.map (toK E')
def prR (E:List Ev) (L:List Int) (i k:Int):Bool:=!(decide (i < k) && (a41 (evA E i) (evA E k) && decide (inA L i > inA L k)))
def prI (E:List Ev) (L:List Int) (i:Int):Bool:=j8 (prR E L i) E.length
def sm1 (E:List Ev) (R:List Int) (M:List (List Int)) (E':List Ev) (R':List Int) (M':List (List Int)):Bool:=!sm0 E R M E' R' M' && (j8 (b0f E E') E.length && (!(!smI R (arR R' (L1 E E')) || a7j M (arM M' (L1 E E')) != 0) && j8 (prI E (L1 E E')) E.length))
def d7u:SpP:=fun
 | [.ag [.es E,.is R,.rs M],.ag [.es E',.is R',.rs M']]=>some ([SzG E M,SzG E' M'],plB (sm1 E R M E' R' M'))
 | _=>none
def kSm1 (nm:List (Option AV)):Nat × (List MBlk→List SV→Option AR):=(40,q6 EL gbT nm [PG,PG] d7u)
def c8y (E:List Ev) (R:List Int) (M:List (List Int)) (E':List Ev) (R':List Int) (M':List (List Int)):List (Option AV):=a8r E R M E' R' M' ++ [none,none,none,none,some (.is (L1 E E')),none,some (.es (arE E' (L1 E E'))),some (.is (arR R' (L1 E E'))),some (.rs (arM M' (L1 E E')))]
def lK1 (E E':List Ev) (t e:Nat):LAnn:={ X:=Nat,inv:=fun j=>j≤E.length∧j8 (b0f E E') j=true,slots:=fun j=>[(t,.i .i64 (j:Int))],mem:=fun j=>[(e,.oarr 3 E.length [.int .i64 (fun k=>bif Nat.blt k j then toK E' (b7 e0 E k) else 0)])],mu:=fun j=>E.length - j,kill:=[] }
def lPk (E:List Ev) (L:List Int) (t:Nat):PLoop:=⟨Nat,fun a=>{ X:=Nat,inv:=fun b=>a < E.length∧a + 1≤b∧b≤E.length∧j8 (prI E L) a=true∧j8 (prR E L a) b=true,slots:=fun b=>[(t,.i .i64 (b:Int))],mem:=fun _=>[],mu:=fun b=>E.length - b,kill:=[] }⟩
noncomputable def lisP (E:List Ev) (L:List Int):Nat × Inl:=(112,{ fn:=Tryz.f112,loops:=[(0,.of (lAl (prI E L) E.length 10)),(2,lPk E L 6)] })
theorem c80:∀ {l m:List Int},l.length=m.length→o9 j5 l m=orF (List.zipWith j5 l m):=by
 intro l
 induction l with
 | nil=>intro m h; cases m with
  | nil=>rfl
  | cons y s=>simp at h
 | cons x r ih=>intro m h; cases m with
  | nil=>simp at h
  | cons y s=>rw[o9,List.zipWith_cons_cons,orF,ih (by simpa using h)]
theorem c7z:∀ {a b l m:List Int},a.length=b.length→o9 j5 (a ++ l) (b ++ m)=bif o9 j5 a b != 0 then o9 j5 a b else o9 j5 l m:=by
 intro a
 induction a with
 | nil=>intro b l m h; cases b with
  | nil=>rfl
  | cons y s=>simp at h
 | cons x r ih=>intro b l m h; cases b with
  | nil=>simp at h
  | cons y s =>
   rw[List.cons_append,List.cons_append,o9,o9,ih (by simpa using h)]
   cases hc:(j5 x y != 0)
   ·simp
   ·simp[hc]
theorem a8f (x:Ev) (r:List Ev):∀ i,m6 (x :: r) (i + 1)=a3c x ++ m6 r i:=by
 intro i
 induction i with
 | zero=>rfl
 | succ i ih =>
  have e:evA (x :: r) ((i + 1:Nat):Int)=evA r (i:Int):=by
   unfold evA
   rw[z0s,z0s]
   rfl
  rw[m6,ih,e,m6,z1x]
theorem d1r (x y:Ev):o9 j5 (a3c x) (a3c y)=a51 x y:=by
 rw[c80 (l:=a3c x) (m:=a3c y) rfl]; rfl
theorem d1q:∀ l m:List Ev,o9 j5 (m6 l l.length) (m6 m m.length)=o9 a51 l m:=by
 intro l
 induction l with
 | nil=>intro m; cases m with
  | nil=>rfl
  | cons y s=>rw[z1g,a8f]; rfl
 | cons x r ih=>intro m; cases m with
  | nil=>rw[z1g,a8f]; rfl
  | cons y s=>rw[z1g,z1g,a8f,a8f,c7z (a:=a3c x) (b:=a3c y) rfl,d1r,ih,o9]
theorem c5m {f:Nat→Int} {n:Nat} (h:∀ j,n≤j→f j=0):∀ d,x5 f (n + d)=x5 f n:=by
 intro d
 induction d with
 | zero=>rfl
 | succ d ih =>
  rw[← z2v,x5,ih,h (n + d) (by omega)]
  cases hc:(x5 f n != 0)
  ·have:x5 f n=0:=by simpa using hc
   rw[this]; rfl
  ·rfl
theorem d6k {a b:List (List Int)} (ha:a.length≤8) (hb:b.length≤8):a7j a b=x5 (a89 a b) 8:=by
 have h:∀ j,(if b.length > a.length then b.length else a.length)≤j→a89 a b j=0:=fun j hj=>by
  have h1:a.length≤j:=by split at hj <;> omega
  have h2:b.length≤j:=by split at hj <;> omega
  have e1:t8 a j=[]:=nthD_out [] h1
  have e2:t8 b j=[]:=nthD_out [] h2
  rw[a89,e1,e2]; rfl
 have:=c5m h (8 - (if b.length > a.length then b.length else a.length))
 rw[show(if b.length > a.length then b.length else a.length) + (8 - (if b.length > a.length then b.length else a.length))=8 by split <;> omega] at this
 rw[this]; rfl
theorem d5e (E:List Ev) (R:List Int) (M:List (List Int)):(noM E R M).length≤8:=by
 unfold noM
 cases hk:s6 E R M
 ·simp[d5]
 ·simp only[s6,z0d] at hk
  have:=(a14 hk.1).1
  simp only[d5,z0f,arM,z2k]
  exact this
theorem c81 {E:List Ev} {R:List Int} {M:List (List Int)} {E':List Ev} {R':List Int} {M':List (List Int)} (h:SzG E M) (h':SzG E' M'):y7 E R M E' R' M'=a0h E R M E' R' M':=by
 obtain⟨a1,a2,a3,a4⟩:=c4m (R:=R) h
 obtain⟨b1,b2,b3,b4⟩:=c4m (R:=R') h'
 rw[y7,a1,a2,a3,a4,b1,b2,b3,b4,b80,a0h,d1q,← d6k (d5e E R M) (d5e E' R' M')]
 generalize a2f E R M=e
 generalize a2f E' R' M'=e'
 generalize o9 a51 (noE E R M) (noE E' R' M')=a
 generalize o9 j5 (noR E R M) (noR E' R' M')=b
 generalize a7j (noM E R M) (noM E' R' M')=c
 have q:∀ z:Int,(z == 0) = !(z != 0):=fun z=>by simp[bne]
 rw[q e,q e']
 have hc:(bif c != 0 then c else 0)=c:=by
  cases h:(c != 0)
  ·have:c=0:=by simpa using h
   rw[this]; rfl
  ·rfl
 simp only[orF,hc]
 cases(e != 0) <;> cases(e' != 0) <;> cases(a != 0) <;> cases(b != 0) <;> rfl
theorem a7u {a b:Ev}:a5c a b=true↔a=b:=by
 constructor
 ·intro h
  simp only[a5c,z0d,beq_iff_eq] at h
  obtain⟨h1,h2,h3,h4,h5,h6,h7,h8,h9⟩:=h
  cases a; cases b
  simp_all
 ·rintro rfl; exact c5e a
theorem c82 (a:Int) (E:List Ev):∀ d i,a0n a E i≤a0n a E (i + d):=by
 intro d
 induction d with
 | zero=>intro i; exact Int.le_refl _
 | succ d ih =>
  intro i
  have:=ih i
  rw[← z2v,a0n]
  cases((b7 e0 E (i + d)).ag == a) <;> simp <;> omega
section
variable {E:List Ev} {R:List Int} {M:List (List Int)}
theorem key_inj (hv:b8 E R M=true) {i k:Nat} (hi:i < E.length) (hk:k < E.length) (ha:(b7 e0 E i).ag=(b7 e0 E k).ag) (hx:(b7 e0 E i).ix=(b7 e0 E k).ix):i=k:=by
 have hev:∀ i:Nat,i < E.length→(b7 e0 E i).ix=a0n (b7 e0 E i).ag E i:=fun i hi=>by
  simp only[b8,z0d] at hv
  have:=x4.1 hv.1.1.2 i hi
  simp only[a6f,z0d,beq_iff_eq,evA,c0o,z0s] at this
  exact this.1.2
 have key:∀ {i k:Nat},k < E.length→i < k→(b7 e0 E i).ag=(b7 e0 E k).ag→a0n (b7 e0 E i).ag E i < a0n (b7 e0 E k).ag E k:=fun {i k} hk hik ha=>by
  rw[← ha]
  have h1:a0n (b7 e0 E i).ag E (i + 1)=a0n (b7 e0 E i).ag E i + 1:=by rw[a0n]; simp
  have h2:=c82 (b7 e0 E i).ag E (k - (i + 1)) (i + 1)
  rw[show i + 1 + (k - (i + 1))=k by omega] at h2
  omega
 rcases Nat.lt_trichotomy i k with h | h | h
 ·have:=key hk h ha
  rw[← hev i hi,← hev k hk] at this
  omega
 ·exact h
 ·have:=key hi h ha.symm
  rw[← hev i hi,← hev k hk] at this
  omega
theorem b8u {E:List Ev} {q v:Int}:∀ {n:Nat},b4y E n q=some v→∃ k:Nat,k < n∧v=k∧q=pk (b7 e0 E k).ag (b7 e0 E k).ix:=by
 intro n
 induction n with
 | zero=>intro h; cases h
 | succ n ih =>
  intro h
  simp only[b4y] at h
  cases hc:q == pk (evA E n).ag (evA E n).ix
  ·rw[hc,z0l] at h
   obtain⟨k,h1,h2,h3⟩:=ih h
   exact⟨k,by omega,h2,h3⟩
  ·rw[hc,z0f,z0a] at h
   exact⟨n,by omega,h.symm,by simpa [evA] using hc⟩
theorem d2c {E:List Ev} {q:Int}:∀ {n:Nat},b4y E n q=none→∀ k:Nat,k < n→q≠pk (b7 e0 E k).ag (b7 e0 E k).ix:=by
 intro n
 induction n with
 | zero=>intro _ k h; omega
 | succ n ih =>
  intro h k hk
  simp only[b4y] at h
  cases hc:q == pk (evA E n).ag (evA E n).ix
  ·rw[hc,z0l] at h
   by_cases e:k=n
   ·subst e
    simpa [evA] using hc
   ·exact ih h k (by omega)
  ·rw[hc,z0f] at h; cases h
theorem b1b (E:List Ev) (e:Ev):(n7 E e = -1∧∀ q,q < E.length→b7 e0 E q≠e)∨∃ j:Nat,n7 E e=j∧j < E.length∧b7 e0 E j=e:=by
 by_cases h:∃ q,q < E.length∧b7 e0 E q=e
 ·right
  have key:∀ m:Nat,m≤E.length→(∀ q,q < m→b7 e0 E q≠e)∨∃ j,(j < E.length∧b7 e0 E j=e)∧∀ q,q < j→b7 e0 E q≠e:=by
   intro m
   induction m with
   | zero=>intro _; exact .inl fun q hq=>by omega
   | succ m ih =>
    intro hm
    rcases ih (by omega) with h1 | h1
    ·by_cases hc:b7 e0 E m=e
     ·exact .inr ⟨m,⟨by omega,hc⟩,h1⟩
     ·exact .inl fun q hq=>by
       by_cases e:q=m
       ·subst e; exact hc
       ·exact h1 q (by omega)
    ·exact .inr h1
  rcases key E.length (z0r _) with h1 | ⟨j,h1,h2⟩
  ·obtain⟨q,hq,he⟩:=h
   exact absurd he (h1 q hq)
  ·refine⟨j,?_,h1.1,h1.2⟩
   have:=c4b (e:=e) (E:=E) (j:=j) (i:=0) (fun q hq=>by
    cases hc:a5c (b7 e0 E q) e
    ·rfl
    ·exact absurd (a7u.1 hc) (h2 q hq)) h1.1 (a7u.2 h1.2)
   rw[n7,this]; omega
 ·left
  refine⟨b9v fun q hq=>?_,fun q hq he=>h ⟨q,hq,he⟩⟩
  cases hc:a5c (b7 e0 E q) e
  ·rfl
  ·exact absurd ⟨q,hq,a7u.1 hc⟩ h
theorem b33 (hv:b8 E R M=true) (e:Ev):(isS (at1 E e) && a5c (evA E (toK E e)) e) = !decide (n7 E e < 0)∧(¬ n7 E e < 0→toK E e=n7 E e):=by
 rcases b1b E e with⟨h1,h2⟩ | ⟨j,h1,h2,h3⟩
 ·rw[h1]
  refine⟨?_,fun h=>absurd (by decide) h⟩
  cases hc:at1 E e with
  | none=>rfl
  | some v =>
   obtain⟨k,hk,rfl,_⟩:=b8u hc
   have:a5c (evA E (toK E e)) e=false:=by
    cases hq:a5c (evA E (toK E e)) e
    ·rfl
    ·have:=a7u.1 hq
     rw[toK,hc] at this
     simp only[z8,evA,z0s] at this
     exact absurd this (h2 k hk)
   rw[this]; rfl
 ·have hat:at1 E e=some (j:Int):=by
   cases hc:at1 E e with
   | none=>exact absurd (by rw[h3]) (d2c hc j h2)
   | some v =>
    obtain⟨k,hk,rfl,hp⟩:=b8u hc
    obtain⟨p1,p2⟩:=c98 hp
    have:j=k:=key_inj hv h2 hk (by rw[h3,p1]) (by rw[h3,p2])
    rw[this]
  have ht:toK E e=j:=by rw[toK,hat]; rfl
  rw[h1,ht,hat]
  refine⟨?_,fun _=>rfl⟩
  have:a5c (evA E (j:Int)) e=true:=a7u.2 (by simpa [evA] using h3)
  rw[this]
  have:¬ ((j:Int) < 0):=by omega
  simp[isS,this]
end
theorem c5a {a b:Int} (h:j5 a b=0):a=b:=by
 unfold j5 at h
 by_cases h1:a < b
 ·simp[h1] at h
 ·by_cases h2:b < a
  ·simp[h1,h2] at h
  ·omega
theorem b6o:∀ {l m:List Int},o9 j5 l m=0↔l=m:=by
 intro l
 induction l with
 | nil=>intro m; cases m <;> simp[o9]
 | cons x r ih=>intro m; cases m with
  | nil=>simp[o9]
  | cons y s =>
   rw[o9]
   cases hc:(j5 x y != 0)
   ·have:=c5a (by simpa using hc)
    subst this
    simp[ih]
   ·have hne:j5 x y≠0:=by simpa using hc
    simp only[z0f,hne,false_iff,z2n,not_and]
    intro e
    subst e
    exact absurd (c59 x) hne
theorem c87 {f:Nat→Int}:∀ {n:Nat},x5 f n=0↔∀ j,j < n→f j=0:=by
 intro n
 induction n with
 | zero=>simp[x5]
 | succ n ih =>
  rw[x5]
  cases hc:(x5 f n != 0)
  ·have h0:x5 f n=0:=by simpa using hc
   rw[z0l]
   constructor
   ·intro h j hj
    by_cases e:j=n
    ·subst e; exact h
    ·exact ih.1 h0 j (by omega)
   ·exact fun h=>h n (by omega)
  ·have h0:x5 f n≠0:=by simpa using hc
   rw[z0f]
   constructor
   ·exact fun h=>absurd h h0
   ·exact fun h=>ih.2 fun j hj=>h j (by omega)
theorem c5b {a b:List (List Int)}:a7j a b=0↔∀ o,t8 a o=t8 b o:=by
 unfold a7j
 rw[c87]
 constructor
 ·intro h o
  by_cases ho:o < (if b.length > a.length then b.length else a.length)
  ·exact b6o.1 (h o ho)
  ·have h1:a.length≤o:=by split at ho <;> omega
   have h2:b.length≤o:=by split at ho <;> omega
   rw[t8,t8,nthD_out [] h1,nthD_out [] h2]
 ·exact fun h o _=>b6o.2 (h o)
theorem a96 (x:Int) (r:List Int):w9 (x :: r) x=0:=a3v (j:=0) (fun q hq=>by omega) (by simp) rfl
theorem a3l {x y:Int} {r:List Int} (h:y≠x) (hm:y∈r) (hd:r.Nodup):w9 (x :: r) y=w9 r y + 1:=by
 obtain⟨j,hj,e⟩:=b35 hm
 have hq:∀ q,q < j→b7 0 r q≠y:=fun q hq e2=>by have:=a8k hd (by omega) hj (e2.trans e.symm); omega
 rw[a3v hq hj e,a3v (j:=j + 1) (fun q hq2=>?_) (by simpa using hj) (by simpa [b7] using e)]
 ·omega
 ·cases q with
  | zero=>exact fun e=>h e.symm
  | succ q=>exact hq q (by omega)
theorem b58 {l:List Int} {x:Int} (h:x∈l):0≤w9 l x:=Int.not_lt.1 fun hn=>a77.1 hn h
theorem c2p:∀ {r s:List Int},r.Nodup→s.Nodup→(∀ x,x∈r↔x∈s)→(∀ i∈r,∀ k∈r,w9 r i < w9 r k↔w9 s i < w9 s k)→r=s:=by
 intro r
 induction r with
 | nil =>
  intro s _ _ hm _
  cases s with
  | nil=>rfl
  | cons y s=>exact absurd ((hm y).2 z1f) (by simp)
 | cons x r ih =>
  intro s hr hs hm ho
  cases s with
  | nil=>exact absurd ((hm x).1 z1f) (by simp)
  | cons y s =>
   have hxy:x=y:=Classical.byContradiction fun hne=>by
    have hy:y∈x :: r:=(hm y).2 z1f
    have hy2:y∈r:=by
     rcases z0q.1 hy with e | e
     ·exact absurd e.symm hne
     ·exact e
    have hx:x∈s:=by
     rcases z0q.1 ((hm x).1 z1f) with e | e
     ·exact absurd e hne
     ·exact e
    have h1:=(ho x z1f y hy).1 (by
     rw[a96,a3l (fun e=>hne e.symm) hy2 (z2o.1 hr).2]
     have:=b58 hy2
     omega)
    rw[a96,a3l hne hx (z2o.1 hs).2] at h1
    have:=b58 hx
    omega
   subst hxy
   obtain⟨hr1,hr2⟩:=z2o.1 hr
   obtain⟨hs1,hs2⟩:=z2o.1 hs
   have hm2:∀ z,z∈r↔z∈s:=fun z=>by
    constructor
    ·intro hz
     rcases z0q.1 ((hm z).1 (z0w _ hz)) with e | e
     ·subst e; exact absurd hz hr1
     ·exact e
    ·intro hz
     rcases z0q.1 ((hm z).2 (z0w _ hz)) with e | e
     ·subst e; exact absurd hz hs1
     ·exact e
   rw[ih hr2 hs2 hm2 fun i hi k hk=>?_]
   have h:=ho i (z0w _ hi) k (z0w _ hk)
   have ni:i≠x:=fun e=>hr1 (e ▸ hi)
   have nk:k≠x:=fun e=>hr1 (e ▸ hk)
   rw[a3l ni hi hr2,a3l nk hk hr2,a3l ni ((hm2 i).1 hi) hs2,a3l nk ((hm2 k).1 hk) hs2] at h
   omega
structure Perm' (n:Nat) (L:List Int):Prop where
 len:L.length=n
 nd:L.Nodup
 bd:∀ x∈L,0≤x∧x < n
section
variable {n:Nat} {L:List Int} (h:Perm' n L)
include h
theorem Perm'.at {i:Int} (h0:0≤i) (h1:i < n):0≤inA L i∧inA L i < n:=h.bd _ (by rw[inA]; exact c0n (by have:=h.len; omega))
theorem Perm'.inj {i k:Int} (hi0:0≤i) (hi:i < n) (hk0:0≤k) (hk:k < n) (e:inA L i=inA L k):i=k:=by
 have:=a8k h.nd (i:=i.toNat) (j:=k.toNat) (by have:=h.len; omega) (by have:=h.len; omega) e
 omega
theorem Perm'.mem {x:Int} (h0:0≤x) (h1:x < n):x∈L:=b0b h.len h.nd h.bd h0 h1
theorem Perm'.to {i:Int} (h0:0≤i) (h1:i < n):toF L (inA L i)=i:=by
 have:=h.len
 rw[c3t h.nd (fun x hx=>(h.bd x hx).1) (h.mem (h.at h0 h1).1 (h.at h0 h1).2)]
 have hp:=a3v (x:=inA L i) (l:=L) (j:=i.toNat) (fun q hq e=>by have:=a8k h.nd (by omega) (by omega) e; omega) (by omega) rfl
 rw[hp]; omega
theorem Perm'.back {x:Int} (h0:0≤x) (h1:x < n):0≤toF L x∧toF L x < n∧inA L (toF L x)=x:=by
 obtain⟨j,hj,e⟩:=b35 (h.mem h0 h1)
 have hl:=h.len
 have hx:x=inA L (j:Int):=by rw[inA,z0s,e]
 have:=h.to (i:=j) (by omega) (by omega)
 rw[← hx] at this
 rw[this]
 exact⟨by omega,by omega,hx.symm⟩
end
theorem c3j (a b:Ev):a97 a b=a97 b a:=by
 rw[z2j]
 simp only[a97,z1u,z0d,z1m,beq_iff_eq]
 omega
theorem d34 {a b:Ev} (ha:t4 a=true) (hb:t4 b=true):a41 a b=a97 a b:=by
 rw[a41,a97,b8r ha,b8r hb]
theorem a55 {E:List Ev} {R:List Int} {M:List (List Int)} (h:VG E R M) {o:Nat} {x:Int}:x∈t8 M o↔(0≤x∧x < E.length)∧wrE (evA E x)=true∧(evA E x).ob=o:=by
 constructor
 ·intro hx
  by_cases ho:o < M.length
  ·exact(h.row o ho).2 x (by rw[x8,z0s]; exact hx)
  ·rw[t8,nthD_out [] (by omega)] at hx; cases hx
 ·rintro ⟨⟨h0,h1⟩,h2,h3⟩
  have:=h.mem x h0 h1 h2
  rw[h3,x8,z0s] at this
  exact this
theorem c9x {E:List Ev} {R:List Int} {M:List (List Int)} (h:VG E R M) (o:Nat):(t8 M o).Nodup:=by
 by_cases ho:o < M.length
 ·have:=(h.row o ho).1
  rwa [x8,z0s] at this
 ·rw[t8,nthD_out [] (by omega)]; exact List.nodup_nil
theorem c9w (M:List (List Int)) (f:Int→Int) (o:Nat):t8 (M.map (fun r=>r.map f)) o=(t8 M o).map f:=by
 by_cases ho:o < M.length
 ·rw[t8,t8,m7 [] _ o (by simpa using ho),m7 [] M o ho,List.getElem_map]
 ·rw[t8,t8,nthD_out [] (by simp; omega),nthD_out [] (by omega)]; rfl
theorem b1u (f:Int→Int) {l:List Int} {j:Nat} (h:j < l.length):b7 0 (l.map f) j=f (b7 0 l j):=by
 rw[m7 0 _ j (by simpa using h),m7 0 l j h,List.getElem_map]
theorem d2p {f:Int→Int} {r:List Int} (hd:(r.map f).Nodup) {x:Int} (hx:x∈r):w9 (r.map f) (f x)=w9 r x:=by
 obtain⟨j,hj,e⟩:=b35 hx
 have hq:∀ q,q < j→b7 0 (r.map f) q≠f x:=fun q hq e2=>by
  have e3:b7 0 (r.map f) j=f x:=by rw[b1u f hj,e]
  have:=a8k hd (by simp; omega) (by simpa using hj) (e2.trans e3.symm)
  omega
 rw[a3v hq (by simpa using hj) (by rw[b1u f hj,e]),a3v (fun q hq2 e2=>hq q hq2 (by rw[b1u f (by omega),e2])) hj e]
section
variable {E:List Ev} {R:List Int} {M:List (List Int)} {E':List Ev} {R':List Int} {M':List (List Int)} {L:List Int}
structure Tk (E:List Ev) (R:List Int) (M:List (List Int)) (E':List Ev) (R':List Int) (M':List (List Int)) (L:List Int):Prop where
 a:VG E R M
 b:VG E' R' M'
 n:E'.length=E.length
 p:Perm' E.length L
 e:∀ i:Int,0≤i→i < E.length→evA E' (inA L i)=evA E i
theorem Tk.fr (h:Tk E R M E' R' M' L) {i:Int} (h0:0≤i) (h1:i < E.length):inA R i=toF L (inA R' (inA L i))↔frL R L i=inA R' (inA L i):=by
 have hL:=h.p.at h0 h1
 have hx:=b5r h.b hL.1 (by rw[h.n]; exact hL.2)
 have hy:=b5r h.a h0 h1
 rw[h.n] at hx
 generalize inA R' (inA L i)=x at *
 unfold frL
 generalize inA R i=y at *
 have hno:∀ z:Int,z < 0→z ∉ L:=fun z hz hm=>by have:=h.p.bd z hm; omega
 have hneg:(x = -1∨x = -2)→(y=toF L x↔(bif decide (y ≥ 0) then inA L y else y)=x):=fun hx=>by
  rw[c3u (hno x (by omega)) hx]
  by_cases hy0:y ≥ 0
  ·rw[decide_eq_true hy0,z0f]
   have:=h.p.at (i:=y) hy0 (by omega)
   omega
  ·rw[decide_eq_false hy0,z0l]
 rcases hx with hx | hx | hx
 ·exact hneg (.inl hx)
 ·exact hneg (.inr hx)
 ·obtain⟨q0,q1,q2⟩:=h.p.back hx.1 hx.2
  by_cases hy0:y ≥ 0
  ·rw[decide_eq_true hy0,z0f]
   constructor
   ·intro e; rw[e]; exact q2
   ·intro e; exact h.p.inj hy0 (by omega) q0 q1 (e.trans q2.symm)
  ·rw[decide_eq_false hy0,z0l]
   omega
theorem Tk.sy (h:Tk E R M E' R' M' L):(∀ i k:Int,0≤i→i < E.length→0≤k→k < E.length→i < k→a41 (evA E i) (evA E k)=true→¬ inA L i > inA L k)↔∀ i k:Int,0≤i→i < E.length→0≤k→k < E.length→syG E R M i k=syG E' R' M' (inA L i) (inA L k):=by
 have hs:∀ i k:Int,0≤i→i < E.length→0≤k→k < E.length→a41 (evA E i) (evA E k)=a97 (evA E i) (evA E k):=fun i k a b c d=>d34 (h.a.ev i a b) (h.a.ev k c d)
 constructor
 ·intro hc i k i0 i1 k0 k1
  rw[syG,syG,h.e i i0 i1,h.e k k0 k1]
  cases hr:a97 (evA E i) (evA E k)
  ·simp
  ·rw[z1r,z1r,decide_eq_decide]
   constructor
   ·intro hik
    have h1:=hc i k i0 i1 k0 k1 hik (by rw[hs i k i0 i1 k0 k1]; exact hr)
    have h2:inA L i≠inA L k:=fun e=>by have:=h.p.inj i0 i1 k0 k1 e; omega
    omega
   ·intro hl
    have h2:i≠k:=fun e=>by rw[e] at hl; omega
    refine Classical.byContradiction fun hn=>?_
    have h1:=hc k i k0 k1 i0 i1 (by omega) (by rw[hs k i k0 k1 i0 i1,c3j]; exact hr)
    omega
 ·intro hc i k i0 i1 k0 k1 hik hg
  have:=hc i k i0 i1 k0 k1
  rw[syG,syG,h.e i i0 i1,h.e k k0 k1,← hs i k i0 i1 k0 k1,hg,z1r,z1r,decide_eq_decide] at this
  omega
theorem Tk.row (h:Tk E R M E' R' M' L) (o:Nat):((t8 M' o).map (toF L)).Nodup∧(∀ i:Int,i∈t8 M o↔i∈(t8 M' o).map (toF L))∧∀ i:Int,i∈t8 M o→w9 ((t8 M' o).map (toF L)) i=w9 (t8 M' o) (inA L i):=by
 have hin:∀ i:Int,0≤i→i < E.length→(inA L i∈t8 M' o↔i∈t8 M o):=fun i h0 h1=>by
  have hL:=h.p.at h0 h1
  rw[a55 h.a,a55 h.b,h.e i h0 h1,h.n]
  exact⟨fun hh=>⟨⟨h0,h1⟩,hh.2⟩,fun hh=>⟨hL,hh.2⟩⟩
 have hbd:∀ x∈t8 M' o,0≤x∧x < E.length:=fun x hx=>by have:=(a55 h.b).1 hx; rw[h.n] at this; exact this.1
 have hnd:((t8 M' o).map (toF L)).Nodup:=by
  have:=c9x h.b o
  rw[List.Nodup,List.pairwise_map]
  refine List.Pairwise.imp_of_mem (fun {x y} hx hy hne e=>hne ?_) this
  have bx:=h.p.back (hbd x hx).1 (hbd x hx).2
  have by':=h.p.back (hbd y hy).1 (hbd y hy).2
  rw[← bx.2.2,← by'.2.2,e]
 refine⟨hnd,fun i=>?_,fun i hi=>?_⟩
 ·constructor
  ·intro hi
   have hb:=((a55 h.a).1 hi).1
   exact z2b.2 ⟨inA L i,(hin i hb.1 hb.2).2 hi,h.p.to hb.1 hb.2⟩
  ·intro hi
   obtain⟨x,hx,rfl⟩:=z2b.1 hi
   have bx:=h.p.back (hbd x hx).1 (hbd x hx).2
   exact(hin _ bx.1 bx.2.1).1 (by rw[bx.2.2]; exact hx)
 ·have hb:=((a55 h.a).1 hi).1
  have:=d2p hnd ((hin i hb.1 hb.2).2 hi)
  rwa [h.p.to hb.1 hb.2] at this
theorem Tk.mo (h:Tk E R M E' R' M' L):(∀ o,t8 M o=t8 (arM M' L) o)↔∀ i k:Int,0≤i→i < E.length→0≤k→k < E.length→moG E R M i k=moG E' R' M' (inA L i) (inA L k):=by
 have har:∀ o,t8 (arM M' L) o=(t8 M' o).map (toF L):=fun o=>c9w M' (toF L) o
 constructor
 ·intro hc i k i0 i1 k0 k1
  rw[moG,moG,h.e i i0 i1,h.e k k0 k1,moB,moB]
  cases hw:(wrE (evA E i) && wrE (evA E k) && (evA E i).ob == (evA E k).ob)
  ·rfl
  ·simp only[z0d,beq_iff_eq] at hw
   obtain⟨⟨w1,w2⟩,w3⟩:=hw
   have ho:=h.a.ob i i0 i1 w1
   have eo:((evA E i).ob.toNat:Int)=(evA E i).ob:=by omega
   have m1:i∈t8 M (evA E i).ob.toNat:=(a55 h.a).2 ⟨⟨i0,i1⟩,w1,eo.symm⟩
   have m2:k∈t8 M (evA E i).ob.toNat:=(a55 h.a).2 ⟨⟨k0,k1⟩,w2,by rw[eo,w3]⟩
   obtain⟨_,_,hp⟩:=h.row (evA E i).ob.toNat
   have e1:x8 M (evA E i).ob=(t8 M' (evA E i).ob.toNat).map (toF L):=by rw[← har,← hc]; rfl
   have e2:x8 M' (evA E i).ob=t8 M' (evA E i).ob.toNat:=rfl
   rw[e1,e2,hp i m1,hp k m2]
 ·intro hc o
  rw[har]
  obtain⟨hn,hm,hp⟩:=h.row o
  refine c2p (c9x h.a o) hn hm fun i hi k hk=>?_
  obtain⟨⟨i0,i1⟩,w1,o1⟩:=(a55 h.a).1 hi
  obtain⟨⟨k0,k1⟩,w2,o2⟩:=(a55 h.a).1 hk
  have:=hc i k i0 i1 k0 k1
  rw[moG,moG,h.e i i0 i1,h.e k k0 k1,moB,moB,w1,w2,o1,o2] at this
  simp only[Bool.and_self,beq_self_eq_true,z0y,x8,z0s] at this
  rw[hp i hi,hp k hk]
  exact decide_eq_decide.1 this
end
section
variable {E:List Ev} {R:List Int} {M:List (List Int)} {E':List Ev} {R':List Int} {M':List (List Int)}
theorem b8b (f:Ev→Int) {i:Int} (h0:0≤i) (h1:i < E.length):inA (E.map f) i=f (evA E i):=by
 rw[inA,evA,m7 0 _ _ (by simp; omega),m7 e0 E _ (by omega),List.getElem_map]
theorem c48 (h:j8 (a63 E E') E.length=true) {i:Int} (h0:0≤i) (h1:i < E.length):∃ j:Nat,n7 E' (evA E i)=j∧j < E'.length∧b7 e0 E' j=evA E i:=by
 have h2:=x4.1 h i.toNat (by omega)
 rw[z1a h0,a63,z0v,z1k] at h2
 rcases b1b E' (evA E i) with⟨h3,_⟩ | h3
 ·omega
 ·exact h3
theorem d15 (hv:b8 E R M=true) (hv':b8 E' R' M'=true) (hn:E'.length=E.length) (h:j8 (a63 E E') E.length=true):Tk E R M E' R' M' (toL E E'):=by
 have hat:∀ i:Int,0≤i→i < E.length→∃ j:Nat,inA (toL E E') i=j∧j < E'.length∧b7 e0 E' j=evA E i:=fun i h0 h1=>by
  rw[toL,b8b _ h0 h1]; exact c48 h h0 h1
 refine⟨vg hv,vg hv',hn,⟨by simp[toL],?_,fun x hx=>?_⟩,fun i h0 h1=>?_⟩
 ·rw[List.Nodup,List.pairwise_iff_getElem]
  intro i k hi hk hik e
  have hi':i < E.length:=by simpa [toL] using hi
  have hk':k < E.length:=by simpa [toL] using hk
  obtain⟨j1,a1,a2,a3⟩:=hat i (by omega) (by omega)
  obtain⟨j2,b1,b2,b3⟩:=hat k (by omega) (by omega)
  rw[inA,z0s,m7 0 _ i hi] at a1
  rw[inA,z0s,m7 0 _ k hk] at b1
  rw[a1,b1] at e
  have:j1=j2:=by omega
  subst this
  have h1:b7 e0 E i=b7 e0 E k:=by
   have:=a3.symm.trans b3
   simpa [evA] using this
  have:=key_inj hv hi' hk' (by rw[h1]) (by rw[h1])
  omega
 ·obtain⟨e,he,rfl⟩:=z2b.1 hx
  obtain⟨i,hi,rfl⟩:=z2s.1 he
  obtain⟨j,a1,a2,_⟩:=c48 h (i:=i) (by omega) (by omega)
  rw[evA,z0s,m7 e0 E i hi] at a1
  rw[a1]; omega
 ·obtain⟨j,a1,a2,a3⟩:=hat i h0 h1
  rw[a1,evA,z0s,a3]
theorem d35 {l m:List Int}:smI l m=true↔l.length=m.length∧∀ i:Int,0≤i→i < l.length→inA l i=inA m i:=by
 simp only[smI,z0d,z0v,bne_eq_false_iff_eq,x4,b1a,beq_iff_eq]
 constructor
 ·rintro ⟨h1,h2⟩
  refine⟨by omega,fun i h0 h3=>?_⟩
  have:=h2 i.toNat (by omega)
  rwa [z1a h0] at this
 ·rintro ⟨h1,h2⟩
  exact⟨by omega,fun i hi=>h2 i (by omega) (by omega)⟩
theorem c4v:sm1 E R M E' R' M'=sm2 E R M E' R' M':=by
 rw[sm1,sm2]
 cases h0:sm0 E R M E' R' M'
 case true=>rfl
 simp only[sm0,z1j,z3b,bne_eq_false_iff_eq] at h0
 obtain⟨⟨hv,hv'⟩,hn⟩:=h0
 have hn:E'.length=E.length:=by omega
 have hk:j8 (b0f E E') E.length=j8 (a63 E E') E.length:=by
  congr 1
  funext i
  rw[b0f,a63,← (b33 hv' (evA E i)).1,Bool.not_or,Bool.not_not,Bool.not_not]
 rw[hk]
 cases hf:j8 (a63 E E') E.length
 ·rfl
 have hL:L1 E E'=toL E E':=List.map_congr_left fun e he=>by
  obtain⟨i,hi,rfl⟩:=z2s.1 he
  obtain⟨j,a1,_,_⟩:=c48 hf (i:=i) (by omega) (by omega)
  rw[evA,z0s,m7 e0 E i hi] at a1
  exact(b33 hv' _).2 (by rw[a1]; omega)
 rw[hL]
 have hT:=d15 hv hv' hn hf
 generalize toL E E'=L at *
 have hRl:R.length=E.length:=by
  simp only[b8,z0d,z1m,beq_iff_eq] at hv
  exact(by have:=hv.1.1.1.1.2; omega)
 have har:(arR R' L).length=E.length:=by rw[arR,z2k,hT.p.len]
 have hat:∀ i:Int,0≤i→i < E.length→inA (arR R' L) i=toF L (inA R' (inA L i)):=fun i h0 h1=>by
  have hl:=hT.p.len
  have e:L[i.toNat]'(by omega)=inA L i:=by rw[inA,m7 0 L _ (by omega)]
  show b7 0 (arR R' L) i.toNat=_
  rw[arR,m7 0 _ _ (by simp; omega),List.getElem_map,e]
 rw[z2z,z0y,z0y,z0y,z0y,z2j]
 simp only[z0d,z0v,z1j,z3b,bne_eq_false_iff_eq,d35,c5b,x4,prI,prR,a5p,a6i,a5q,c3m]
 constructor
 ·rintro ⟨⟨⟨_,hA⟩,hB⟩,hC⟩ i hi
  have hS:=hT.sy.1 fun i k i0 i1 k0 k1 hik hg=>by
   have:=hC i.toNat (by omega) k.toNat (by omega)
   rw[z1a i0,z1a k0] at this
   simp only[decide_eq_true hik,z0y,hg,z1k] at this
   exact this
  have hM:=hT.mo.1 hB
  refine⟨(hT.fr (by omega) (by omega)).1 ?_,fun k hk=>⟨hS i k (by omega) (by omega) (by omega) (by omega),hM i k (by omega) (by omega) (by omega) (by omega)⟩⟩
  rw[← hat i (by omega) (by omega)]
  exact hA i (by omega) (by omega)
 ·intro h
  refine⟨⟨⟨by omega,fun i h0 h1=>?_⟩,hT.mo.2 fun i k i0 i1 k0 k1=>?_⟩,fun i hi k hk=>?_⟩
  ·rw[hat i h0 (by omega)]
   have:=(h i.toNat (by omega)).1
   rw[z1a h0] at this
   exact(hT.fr h0 (by omega)).2 this
  ·have:=((h i.toNat (by omega)).2 k.toNat (by omega)).2
   rwa [z1a i0,z1a k0] at this
  ·have hS:=hT.sy.2 fun i k i0 i1 k0 k1=>by
    have:=((h i.toNat (by omega)).2 k.toNat (by omega)).1
    rwa [z1a i0,z1a k0] at this
   cases hd:decide ((i:Int) < k)
   ·rfl
   ·cases hg:a41 (evA E i) (evA E k)
    ·rfl
    ·have:=hS i k (by omega) (by omega) (by omega) (by omega) (z0e hd) hg
     rw[z0y,z0y]
     exact decide_eq_false this
end
theorem d36 (E:List Ev) (R:List Int) (M:List (List Int)):sm1 E R M E R M=b8 E R M:=by
 rw[c4v,sm2]
 cases hv:b8 E R M
 ·simp[sm0,hv]
 have hself:∀ i:Int,0≤i→i < E.length→n7 E (evA E i)=i:=fun i h0 h1=>by
  rcases b1b E (evA E i) with⟨_,h3⟩ | ⟨j,h3,h4,h5⟩
  ·exact absurd rfl (h3 i.toNat (by omega))
  ·have:j=i.toNat:=key_inj hv h4 (by omega) (by rw[h5]; rfl) (by rw[h5]; rfl)
   omega
 have hL:∀ i:Int,0≤i→i < E.length→inA (toL E E) i=i:=fun i h0 h1=>by rw[toL,b8b _ h0 h1,hself i h0 h1]
 have h1:j8 (a63 E E) E.length=true:=x4.2 fun i hi=>by
  rw[a63,hself i (by omega) (by omega)]
  simp only[z0v,z1k]; omega
 have h2:j8 (a5p E R M E R M (toL E E)) E.length=true:=x4.2 fun i hi=>by
  have hi0:=hL i (by omega) (by omega)
  have hb:=b5r (vg hv) (i:=i) (by omega) (by omega)
  rw[a5p,z0d]
  refine⟨?_,x4.2 fun k hk=>?_⟩
  ·rw[a6i,hi0,frL]
   by_cases hy:inA R i ≥ 0
   ·rw[decide_eq_true hy,z0f,hL _ hy (by omega)]; simp
   ·rw[decide_eq_false hy,z0l]; simp
  ·rw[a5q,c3m,hi0,hL k (by omega) (by omega)]; simp
 rw[h1,h2]
 simp[sm0,hv]
end Go.Proofs.YtaeeaniofljmnaaGreatDoor

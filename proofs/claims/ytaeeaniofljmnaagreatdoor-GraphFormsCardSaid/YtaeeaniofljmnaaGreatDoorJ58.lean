/-
  A part of the proof (J58).
-/
import Derived.Test.YtaeeaniofljmnaaGreatDoorJLaw
import Derived.Test.YtaeeaniofljmnaaGreatDoorJ57
namespace Go.Proofs.YtaeeaniofljmnaaGreatDoor
set_option linter.unusedSimpArgs false
set_option linter.unusedVariables false
open Go Go.Proofs.YtaeeaniofljmnaaGreatDoor.Sx
section
variable {E:List Ev} {R:List Int} {M:List (List Int)}
theorem c8e {P:List Pq} {L:List Int} {k:Int}:b07 P L k=true↔∀ j,d7 P j k=true→j∈L:=by
 unfold b07
 rw[a02]
 constructor
 ·intro h j hj
  obtain⟨i,hi,he⟩:=z3u.1 (a4j.1 hj)
  have:=h i hi
  rw[rdG,z1m,o6 _ _ _ hi,he] at this
  refine Classical.byContradiction fun hn=>?_
  rw[beq_self_eq_true,decide_eq_true (a88.2 hn)] at this
  cases this
 ·intro h i hi
  rw[rdG,z1m,o6 _ _ _ hi]
  cases he:(P[i].2 == k)
  ·rfl
  ·have hm:=h P[i].1 (a4j.2 (by rw[← (by simpa using he:P[i].2=k)]; exact z1r hi))
   have:¬ y6 L P[i].1 < 0:=fun hn=>a88.1 hn hm
   rw[decide_eq_false this]; rfl
theorem b4m {P:List Pq} {L:List Int} {k:Int}:a22 P L k=true↔k ∉ L∧∀ j,d7 P j k=true→j∈L:=by
 rw[a22,z0d,z1i,a88,c8e]
theorem c8f {P:List Pq} {L:List Int} {k:Int}:z7 P L k=true↔k ∉ L∧∀ j,d7 P j k=true→j∈L:=by
 rw[z7,z0d,beq_iff_eq,c11,z0v,and_comm]
 refine and_congr_left' ?_
 rw[← b3j,Bool.not_eq_true]
theorem b3e {n:Nat} {f:Pf} {a b:Int}:d7 (a5p n f) a b=true↔Tr (d7 (b7 n f)) a b:=by
 have hs:Sup n (d7 (b7 n f)):=fun a b h=>by have:=a3c.1 h; exact⟨this.1,this.2.1,this.2.2.1,this.2.2.2.1⟩
 rw[a5p,a3c]
 constructor
 ·exact fun h=>(a9c hs).1 h.2.2.2.2
 ·intro h
  obtain⟨h1,h2,h3,h4⟩:=h.sup hs
  exact⟨h1,h2,h3,h4,(a9c hs).2 h⟩
def Dn (f:Pf) (L:List Int):Prop:=∀ i∈L,∀ j,Tr f j i→j∈L
theorem Dn.pre {f:Pf} {L:List Int} (h:Dn f L) {i:Int}:(∀ j,Tr f j i→j∈L)↔∀ j,f j i=true→j∈L:=by
 constructor
 ·exact fun h1 j hj=>h1 j (.one hj)
 ·intro h1 j hj
  cases hj with
  | one e=>exact h1 _ e
  | tail a e=>exact h _ (h1 _ e) _ a
theorem Dn.add {f:Pf} {L:List Int} (h:Dn f L) {b:Int} (hb:∀ j,f j b=true→j∈L):Dn f (L ++ [b]):=fun i hi j hj=>by
 simp only[z0o,z0r] at hi ⊢
 rcases hi with hi | rfl
 ·exact .inl (h i hi j hj)
 ·exact .inl (h.pre.2 hb j hj)
theorem b4n {n:Nat} {f:Pf} {L:List Int} (h:Dn (d7 (b7 n f)) L) (k:Int):z7 (a5p n f) L k=a22 (b7 n f) L k:=by
 rw[z3b,c8f,b4m]
 refine and_congr_right fun _=>?_
 rw[← h.pre]
 exact⟨fun h1 j hj=>h1 j (b3e.2 hj),fun h1 j hj=>h1 j (b3e.1 hj)⟩
theorem b9w {f:Pf} (ho:Ord E.length (a5p E.length f)):∀ s,s≤E.length→s6 (b7 E.length f) E s=o9 (a5p E.length f) E s∧Dn (d7 (b7 E.length f)) (o9 (a5p E.length f) E s):=by
 intro s
 induction s with
 | zero=>intro _; exact⟨rfl,fun i hi=>by cases hi⟩
 | succ s ih =>
  intro hs
  obtain⟨h1,h2⟩:=ih (by omega)
  have e:m5 (a22 (b7 E.length f) (o9 (a5p E.length f) E s)) E E.length=m5 (z7 (a5p E.length f) (o9 (a5p E.length f) E s)) E E.length:=b1k fun i _=>(b4n h2 i).symm
  refine⟨by rw[s6,o9,h1,e],?_⟩
  rw[o9]
  refine h2.add ?_
  have:=b79 (ho.best (L:=o9 (a5p E.length f) E s) (by rw[a2x]; omega)).1
  rw[b4n h2] at this
  exact(b4m.1 this).2
theorem d5r {f:Pf} (ho:Ord E.length (a5p E.length f)):okQ (b7 E.length f) E=true:=by
 unfold okQ
 rw[a02]
 intro s hs
 have h:=b9w ho s (by omega)
 have hb:=ho.best (L:=o9 (a5p E.length f) E s) (by rw[a2x]; omega)
 rw[okS,z1m,h.1,b1k fun i _=>(b4n h.2 i).symm]
 exact decide_eq_true hb.1
theorem c7z {f:Pf} {n:Nat} (hn:n=E.length) (h:m8 (okS (b7 n f) E) n=true):∀ s,s≤n→(∀ i∈s6 (b7 n f) E s,0≤i∧i < n)∧(s6 (b7 n f) E s).Nodup∧Dn (d7 (b7 n f)) (s6 (b7 n f) E s)∧∀ i∈s6 (b7 n f) E s,¬ Tr (d7 (b7 n f)) i i:=by
 intro s
 induction s with
 | zero=>intro _; exact⟨fun i hi=>(by cases hi),List.nodup_nil,fun i hi=>(by cases hi),fun i hi=>(by cases hi)⟩
 | succ s ih =>
  intro hs
  obtain⟨h1,h2,h3,h4⟩:=ih (by omega)
  have h0:=a02.1 h s (by omega)
  rw[okS,z1m,z1i] at h0
  have hl:=(a7f (a22 (b7 n f) (s6 (b7 n f) E s)) E E.length).2
  have hc:=b4m.1 (b79 h0)
  rw[s6]
  generalize m5 (a22 (b7 n f) (s6 (b7 n f) E s)) E E.length=b at *
  refine⟨fun i hi=>?_,?_,h3.add hc.2,fun i hi=>?_⟩
  ·simp only[z0o,z0r] at hi
   rcases hi with hi | rfl
   ·exact h1 i hi
   ·omega
  ·rw[List.nodup_append]
   refine⟨h2,by simp,fun a ha c hc2 e=>?_⟩
   simp at hc2
   subst hc2
   subst e
   exact hc.1 ha
  ·simp only[z0o,z0r] at hi
   rcases hi with hi | rfl
   ·exact h4 i hi
   ·exact fun ht=>hc.1 (h3.pre.2 hc.2 _ ht)
theorem b3r {L:List Int} {n:Nat} (hl:L.length=n) (hn:L.Nodup) (hb:∀ i∈L,0≤i∧i < n) {k:Int} (h0:0≤k) (h1:k < n):k∈L:=Classical.byContradiction fun hk=>by
 have:=a98 (L:=k :: L) (W:=(List.range n).map (fun i:Nat=>(i:Int))) (z3o.2 ⟨hk,hn⟩) fun x hx=>by
  have hx2:0≤x∧x < n:=by rcases z0t.1 hx with rfl | hx; exact⟨h0,h1⟩; exact hb x hx
  exact z2b.2 ⟨x.toNat,by simp; omega,by omega⟩
 simp at this
 omega
theorem d57 {f:Pf}:okQ (b7 E.length f) E=a8b E.length (a5p E.length f):=by
 have hs:Sup E.length (d7 (b7 E.length f)):=fun a b h=>by have:=a3c.1 h; exact⟨this.1,this.2.1,this.2.2.1,this.2.2.2.1⟩
 cases ha:a8b E.length (a5p E.length f)
 ·cases ho:okQ (b7 E.length f) E
  ·rfl
  ·exfalso
   obtain⟨h1,h2,_,h4⟩:=c7z rfl ho E.length (z0q _)
   have:a8b E.length (a5p E.length f)=true:=by
    simp only[a8b,a2t,z2h,z2m,z0v]
    intro a hal
    cases hw:wF (d7 (a5p E.length f)) E.length a a
    ·rfl
    ·exfalso
     have hs2:Sup E.length (d7 (a5p E.length f)):=fun a b h=>(b3e.1 h).sup hs
     have ht:=(a9c hs2).1 hw
     have ht2:Tr (d7 (b7 E.length f)) a a:=by
      have:∀ p q,Tr (d7 (a5p E.length f)) p q→Tr (d7 (b7 E.length f)) p q:=fun p q h=>by
       induction h with
       | one e=>exact b3e.1 e
       | tail _ e ih=>exact ih.trans (b3e.1 e)
      exact this _ _ ht
     exact h4 a (b3r (a6d _ _ _) h2 h1 (by omega) (by omega)) ht2
   rw[this] at ha
   cases ha
 ·exact d5r (b74 hs ha)
theorem d2g:j8 ⟨#[112,114,115]⟩ E R M=fun i k=>poG E R M i k || rfG E R M i k || syG E R M i k:=rfl
theorem d5v (hv:b8 E R M=true):d5 E R M=a5p E.length (j8 ⟨#[112,114,115]⟩ E R M):=by
 rw[d2g,d5,a6a]
 exact d5b (fun _ _ _ _ _ _=>rfl) (fun _ _ _ _ _ _=>rfl) (e0q (vg hv))
theorem c9x {L:List Int} (hd:L.Nodup) (hb:∀ i∈L,0≤i) {x:Int} (h:x∈L):toF L x=y6 L x:=by
 obtain⟨j,hj,hx⟩:=d15 h
 rw[toF,toM,d1k hx hj (fun i h1 h2 e=>by have:=c3p hd h2 hj (e.trans hx.symm); omega),b4k (fun q hq e=>by have:=c3p hd (by omega) hj (e.trans hx.symm); omega) hj hx]
 rfl
theorem c9y {L:List Int} {x:Int} (h:x ∉ L) (hx:x = -1∨x = -2):toF L x=x:=by
 rw[toF,toM,c84 fun j hj e=>h (by rw[← e]; exact c7y hj)]
 rcases hx with rfl | rfl <;> rfl
theorem e0m {L:List Int} {n:Nat} (hl:L.length=n) (hd:L.Nodup) (hb:∀ i∈L,0≤i∧i < n) {x:Int} (hx:x = -1∨x = -2∨0≤x∧x < n):psO L x=toF L x:=by
 unfold psO
 rcases hx with hx | hx | hx
 ·rw[c9y (fun h=>by have:=hb _ h; omega) (.inl hx),hx]; rfl
 ·rw[c9y (fun h=>by have:=hb _ h; omega) (.inr hx),hx]; rfl
 ·rw[c9x hd (fun i hi=>(hb i hi).1) (b3r hl hd hb hx.1 hx.2),decide_eq_true hx.1]; rfl
theorem d6p (h:VG E R M) {i:Int} (h0:0≤i) (h1:i < E.length):inA R i = -1∨inA R i = -2∨0≤inA R i∧inA R i < E.length:=by
 cases hr:rdE (evA E i)
 ·exact .inr (.inl (c9o h h0 h1 hr))
 ·rcases c9p h h0 h1 hr with h2 | h2
  ·exact .inl h2
  ·exact .inr (.inr h2.1)
theorem c8q {r:List Int} (hr:r∈M):∃ o:Nat,o < M.length∧x6 M o=r:=by
 obtain⟨o,ho,rfl⟩:=z3u.1 hr
 exact⟨o,ho,by unfold x6; rw[z1m,o6 [] M o ho]⟩
theorem d5o (hs:SzG E M):c22 E R M=c24 E R M:=by
 cases hv:b8 E R M
 ·simp only[c22,c24,a21,a07,y8,o7,hv,Bool.false_and,f8,z0l]
 ·have hp:=d5v hv
  have hk:okQ (uQ E R M) E=a8b E.length (d5 E R M):=by rw[hp]; exact d57
  cases ha:a8b E.length (d5 E R M)
  ·rw[ha] at hk
   simp only[c22,c24,a21,a07,y8,o7,hv,hk,ha,z1h,f8,z0f,z0l]
  ·rw[ha] at hk
   have ho:Ord E.length (d5 E R M):=by
    rw[hp] at ha ⊢
    exact b74 (fun a b h=>by have:=a3c.1 h; exact⟨this.1,this.2.1,this.2.2.1,this.2.2.2.1⟩) ha
   have hO:z6 E R M=t5 E R M:=by
    rw[z6,t5,hp]
    rw[hp] at ho
    exact(b9w ho _ (z0q _)).1
   obtain⟨b1,b2⟩:=ho.list (z0q E.length)
   have hl:(t5 E R M).length=E.length:=a2x _ _ _
   have hR:orR R (t5 E R M)=arR R (t5 E R M):=List.map_congr_left fun i hi=>e0m hl b2 b1 (d6p (vg hv) (b1 i hi).1 (b1 i hi).2)
   have hM:orM M (t5 E R M)=arM M (t5 E R M):=List.map_congr_left fun r hr=>List.map_congr_left fun x hx=>by
    obtain⟨o,h1,rfl⟩:=c8q hr
    have:=((vg hv).row o h1).2 x hx
    exact(c9x b2 (fun i hi=>(b1 i hi).1) (b3r hl b2 b1 this.1.1 this.1.2)).symm
   simp only[c22,c24,a21,a07,y8,o7,hv,hk,ha,z1h,f8,z0f,hO,hR,hM]
end
set_option maxRecDepth 100000
def n2E (E:List Ev) (R:List Int) (M:List (List Int)):List Ev:=f8 (y8 E R M) (arE E (z6 E R M))
def n2R (E:List Ev) (R:List Int) (M:List (List Int)):List Int:=f8 (y8 E R M) (orR R (z6 E R M))
def n2M (E:List Ev) (R:List Int) (M:List (List Int)):List (List Int):=f8 (y8 E R M) (orM M (z6 E R M))
def pxE (E:List Ev) (R:List Int) (M:List (List Int)) (n:Int):List Ev:=f8 (pfK E R M n) (E.take n.toNat)
def pxR (E:List Ev) (R:List Int) (M:List (List Int)) (n:Int):List Int:=f8 (pfK E R M n) (R.take n.toNat)
def pxM (E:List Ev) (R:List Int) (M:List (List Int)) (n:Int):List (List Int):=f8 (pfK E R M n) (M.map (u7 n))
def nm4 (E:List Ev) (R:List Int) (M:List (List Int)) (n:Int):List (Option AV):=[none,some (.es E),some (.is R),some (.rs M),none,some (.es (noE E R M)),some (.is (noR E R M)),some (.rs (noM E R M)),none,some (.es (n2E E R M)),some (.is (n2R E R M)),some (.rs (n2M E R M)),none,some (.es (pxE E R M n)),some (.is (pxR E R M n)),some (.rs (pxM E R M n)),none,some (.es (pxE E R M n)),some (.is (pxR E R M n)),some (.rs (pxM E R M n))]
theorem c49 (a:Int):m7 a a=0:=c35 (by omega) (by omega)
theorem b60 (l:List Int):w7 m7 l l=0:=by
 rw[a65 (d:=0) fun q _ _=>c49 _]
 simp
theorem c4c (e:Ev):d5d e e=true:=by simp[d5d]
theorem c9m (l:List Ev):smE l l=true:=by
 have:m8 (b3k l l) l.length=true:=a02.2 fun i _=>c4c _
 simp[smE,this]
theorem b8z (E:List Ev) (R:List Int) (M:List (List Int)):eqG E R M E R M=true:=by
 have:m8 (b3l M M) M.length=true:=a02.2 fun i _=>by simp[b3l,b60]
 simp[eqG,c9m,b60,this]
theorem e0i {E:List Ev} {R:List Int} {M:List (List Int)} (h:SzG E M):a21 E R M=a07 E R M∧n2E E R M=noE E R M∧n2R E R M=noR E R M∧n2M E R M=noM E R M:=by
 have:=d5o (R:=R) h
 simp only[c22,c24,QV.gr.injEq,z0a] at this
 exact this
theorem d0p {n:Int} {r:List Int}:(u7 n r).length≤r.length:=b2g n r _
theorem e0n {E:List Ev} {R:List Int} {M:List (List Int)} {n:Int} (h:SzG E M) (hR:R.length≤17592186044416) (hM:M.length≤17592186044416):((pxE E R M n).length≤1099511627776∧(pxR E R M n).length≤1099511627776∧(pxM E R M n).length≤1099511627776)∧∀ r:List Int,List.Mem r (pxM E R M n)→r.length≤1099511627776:=by
 unfold pxE pxR pxM
 cases hk:pfK E R M n
 ·simp only[f8,z0l]
  exact⟨⟨by simp,by simp,by simp⟩,fun r h=>nomatch h⟩
 ·have hv:b8 E R M=true:=by
   cases hv:b8 E R M
   ·simp[pfK,a5y,hv] at hk
   ·rfl
  obtain⟨hG,hN⟩:=a06 hv h
  obtain⟨hM,hR⟩:=a1a hv
  simp only[f8,z0f,z3w,z2s]
  refine⟨⟨by omega,by omega,by omega⟩,fun r hr=>?_⟩
  obtain⟨q,hq,rfl⟩:=z2b.1 (show r∈_ from hr)
  have h1:=d0p (n:=n) (r:=q)
  have h2:q.length≤1099511627776:=h.2 hM q hq
  omega
def q4D (E:List Ev) (R:List Int) (M:List (List Int)) (n:Int):Prop:=p7 (({ g:=true,calls:=[kFew (nm4 E R M n),kAwk (nm4 E R M n),c7c (nm4 E R M n),d42 (nm4 E R M n),d43 (nm4 E R M n),d44 (nm4 E R M n),kEqu (nm4 E R M n)] }:Kit)).tab Tryz.f4 [b24 E R M,.i .i64 n] (grT E R M) (l4 .tt)
theorem e0r (E:List Ev) (R:List Int) (M:List (List Int)) (n:Int):q4D E R M n=(
 let a:=true && eqG (noE E R M) (noR E R M) (noM E R M) (n2E E R M) (n2R E R M) (n2M E R M) && a07 E R M ==a21 E R M
 let b:=f8 (pfK E R M n) (List.map (u7 n) M)
 let c:=f8 (pfK E R M n) (List.take n.toNat E)
 let d:=f8 (pfK E R M n) (List.take n.toNat R)
 let e:=(1099511627776:Nat)
 let f:=f8 (y8 E R M) (YtaeeaniofljmnaaGreatDoor.orM M (z6 E R M))
 let g:=f8 (o7 E R M) (arM M (t5 E R M))
 let h:=f8 (o7 E R M) (arE E (t5 E R M))
 let k:=f8 (o7 E R M) (arR R (t5 E R M))
 let l:=f8 (y8 E R M) (arE E (z6 E R M))
 let m:=f8 (y8 E R M) (orR R (z6 E R M))
 let o:=(17592186044416:Nat)
 let p:=a=true→mkN (b6 (0:Int) d) d.length=pxR E R M n
 let q:=pxM E R M n
 let s:=a=true→c.length=c.length
 let t:=a=true→d.length=d.length
 let u:=a=true→b.length=b.length
 let v:=(0:Int)
 E.length=E.length∧R.length=R.length∧M.length=M.length∧nE E∧nI R∧nR M∧((E.length≤o∧R.length≤o∧M.length≤o)∧∀(r:List Int),List.Mem r M→r.length≤o)∧((!c4g E R M (300:Int))=true→some tbl=some tbl∧true=true)∧((!c4g E R M (300:Int))=false→some tbl=some tbl∧E.length=E.length∧R.length=R.length∧M.length=M.length∧nE E∧nI R∧nR M∧(E.length≤e∧(M.length≤(8:Nat)→∀(r:List Int),List.Mem r M→r.length≤e))∧E.length=E.length∧R.length=R.length∧M.length=M.length∧nE E∧nI R∧nR M∧(E.length≤e∧(M.length≤(8:Nat)→∀(r:List Int),List.Mem r M→r.length≤e))∧some (n7 [] (n7 [] tbl))=some tbl∧E.length=E.length∧R.length=R.length∧M.length=M.length∧nE E∧nI R∧nR M∧(E.length≤e∧(M.length≤(8:Nat)→∀(r:List Int),List.Mem r M→r.length≤e))∧E.length=E.length∧R.length=R.length∧M.length=M.length∧nE E∧nI R∧nR M∧(E.length≤e∧(M.length≤(8:Nat)→∀(r:List Int),List.Mem r M→r.length≤e))∧some (n7 [] (n7 [] (n7 [] (n7 [] tbl))))=some tbl∧(true=true→h.length=h.length)∧(true=true→k.length=k.length)∧(true=true→g.length=g.length)∧(true=true→mkN (fun(j:Nat)=>b6 e0 h j) h.length=noE E R M)∧(true=true→mkN (b6 v k) k.length=noR E R M)∧(true=true→mkN (fun(j:Nat)=>mkN (fun(i:Nat)=>b6 v (b6 [] g j) i) (b6 [] g j).length) g.length=noM E R M)∧(true=true→l.length=l.length)∧(true=true→m.length=m.length)∧(true=true→f.length=f.length)∧(true=true→mkN (fun(j:Nat)=>b6 e0 l j) l.length=n2E E R M)∧(true=true→mkN (b6 v m) m.length=n2R E R M)∧(true=true→mkN (fun(j:Nat)=>mkN (fun(i:Nat)=>b6 v (b6 [] f j) i) (b6 [] f j).length) f.length=n2M E R
 M)∧(true=true→((noE E R M).length≤e∧(noR E R M).length≤e∧(noM E R M).length≤e)∧∀(r:List Int),List.Mem r (noM E R M)→r.length≤e)∧s∧t∧u∧(a=true→mkN (fun(j:Nat)=>b6 e0 c j) c.length=pxE E R M n)∧p∧(a=true→mkN (fun(j:Nat)=>mkN (fun(i:Nat)=>b6 v (b6 [] b j) i) (b6 [] b j).length) b.length=pxM E R M n)∧s∧t∧u∧(a=true→mkN (fun(j:Nat)=>b6 e0 c j) c.length=pxE E R M n)∧p∧(a=true→mkN (fun(j:Nat)=>mkN (fun(i:Nat)=>b6 v (b6 [] b j) i) (b6 [] b j).length) b.length=pxM E R M n)∧(a=true→((pxE E R M n).length≤e∧(pxR E R M n).length≤e∧q.length≤e)∧∀(r:List Int),List.Mem r q→r.length≤e)∧(true && eqG (noE E R M) (noR E R M) (noM E R M) (n2E E R M) (n2R E R M) (n2M E R M) && a07 E R M ==a21 E R M && eqG (pxE E R M n) (pxR E R M n) q (pxE E R M n) (pxR E R M n) q && a5y E R M n ==a5y E R M n)=true)):=by kernel_rfl
theorem v4 (E:List Ev) (R:List Int) (M:List (List Int)) (n:Int) (h:SzF E R M):q4D E R M n:=by
 rw[e0r]
 simp only[eq_self,true_and,and_true,z0n,imp_self,l9,m6,n5,g7,g8,PLoop.of,q6,AV.len,g9,z0s,i9,j4,j5,l5,l6,l7]
 refine⟨⟨h.1,h.2⟩,fun hc=>?_⟩
 have hF:=h
 have h:SzG E M:=d5e (by simpa using hc)
 have h':E.length≤1099511627776∧(M.length≤8→∀(r:List Int),List.Mem r M→r.length≤1099511627776):=⟨h.1,h.2⟩
 obtain⟨e1,e2,e3,e4⟩:=e0i (R:=R) h
 have hz:=c7w (R:=R) h
 have hp:=e0n (R:=R) (n:=n) h hF.1.2.1 hF.1.2.2
 refine⟨h',h',h',h',rfl,rfl,rfl,rfl,rfl,rfl,⟨⟨hz.1,hz.2.1,hz.2.2.1⟩,hz.2.2.2⟩,fun _=>rfl,fun _=>rfl,fun _=>rfl,fun _=>rfl,fun _=>rfl,fun _=>rfl,fun _=>hp,?_⟩
 rw[e1,e2,e3,e4,b8z,b8z]
 simp
end Go.Proofs.YtaeeaniofljmnaaGreatDoor

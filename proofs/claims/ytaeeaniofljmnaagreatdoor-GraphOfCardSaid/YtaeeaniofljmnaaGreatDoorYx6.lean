/-
  A part of the proof (Yx6).
-/
import Derived.Test.YtaeeaniofljmnaaGreatDoorYx5
namespace Go.Proofs.YtaeeaniofljmnaaGreatDoor.Sx
set_option linter.unusedSimpArgs false
set_option linter.unusedVariables false
open Go Go.RowKit
section
variable {P:Program} {T:Tab} {ρ:Env} {sl:List Slot} {a:Act} {K:Lim} {W w0:World} {m:List MBlk} {o:Oper}
theorem b8t {x:SV} {v:Value} (h:a7o x=true) (hd:Den ρ x v):v.oneCell'=true:=by
 cases hd <;> first | rfl | simp[a7o] at h
theorem b2b {xs:List SV} {vs:List Value} (h:a86 xs=true) (hd:DenL ρ xs vs):∀ v∈vs,v.oneCell'=true:=by
 induction xs generalizing vs with
 | nil=>obtain rfl:=hd.inv_nil; intro v hv; cases hv
 | cons x r ih =>
  obtain⟨v,ws,rfl,h1,h2⟩:=hd.inv
  simp only[a86,z0d] at h
  intro u hu
  rcases z0s.1 hu with rfl | hu
  ·exact b8t h.1 h1
  ·exact ih h.2 h2 u hu
theorem a5b (g off j:Nat):(Addr.add ⟨g,off,none⟩ j)=⟨g,off + j,none⟩:=by unfold Addr.add; split <;> simp_all
theorem a1d {g t:Nat} (off:Nat):∀(us:List Value) (i:Nat) (W:World) (vs:Array Value),W.heap[g]?=some (.cells vs t (0,0))→off + i + us.length≤vs.size→(∀ u∈us,u.oneCell'=true) →
  ∃(W':World) (vs':Array Value),(storeCells ⟨g,off,none⟩ us i).run P W=.ok () W'∧W'.heap[g]?=some (.cells vs' t (0,0))∧vs'.size=vs.size∧(∀ j,vs'[j]?=if off + i≤j∧j < off + i + us.length then us[j - (off + i)]? else vs[j]?)∧W.grownBy W' (some g)∧W'.heap.size=W.heap.size:=by
 intro us
 induction us with
 | nil =>
  intro i W vs hg _ _
  exact⟨W,vs,by simp[storeCells],hg,rfl,fun j=>by simp; omega,World.grownBy.refl W _,rfl⟩
 | cons u us ih =>
  intro i W vs hg hl ho
  simp only[z1g] at hl
  have hcell:W.cell? ⟨g,off + i,none⟩=vs[off + i]?:=cell_of_row W g (off + i) vs t (0,0) hg
  have hlt:off + i < vs.size:=by omega
  have hfr:W.frozen? ⟨g,off + i,none⟩=false:=frozen_of_row W g (off + i) vs t hg
  have hst:(store ⟨g,off + i,none⟩ u).run P W=.ok () (W.setCell ⟨g,off + i,none⟩ u):=by
   rw[run_store P W _ u _ (ho u (by simp)),hcell,z2m hlt]
   simp[hfr]
  have hg1:=heap_setCell_same W g (off + i) vs t u hg
  obtain⟨W',vs',h1,h2,h3,h4,h5,h6⟩:=ih (i + 1) (W.setCell ⟨g,off + i,none⟩ u) (vs.setIfInBounds (off + i) u) hg1 (by simp; omega) (fun x hx=>ho x (by simp[hx]))
  refine⟨W',vs',?_,h2,by rw[h3]; simp,fun j=>?_,?_,by rw[h6]; simp⟩
  ·simp only[storeCells,z1a,a5b,hst,z0o]
   exact h1
  ·rw[h4 j]
   simp only[z1g]
   by_cases c1:off + (i + 1)≤j∧j < off + (i + 1) + us.length
   ·rw[if_pos c1,if_pos (by omega),show j - (off + i)=(j - (off + (i + 1))) + 1 by omega,z1t]
   ·rw[if_neg c1]
    by_cases c2:j=off + i
    ·subst c2
     rw[if_pos (by omega),Array.getElem?_setIfInBounds_self_of_lt hlt]
     simp
    ·rw[if_neg (by omega),Array.getElem?_setIfInBounds_ne (by omega)]
  ·have s1:W.grownBy (W.setCell ⟨g,off + i,none⟩ u) (some g):=⟨rfl,rfl,rfl,by simp,fun k _ hne=>Below.heap_setCell _ _ _ _ (fun e=>hne (by rw[e]))⟩
   exact⟨h5.os.trans s1.os,h5.tape.trans s1.tape,h5.output.trans s1.output,Nat.le_trans s1.size h5.size,fun k hk hne=>(h5.block k (z2c hk s1.size) hne).trans (s1.block k hk hne)⟩
theorem BR.other {row:Option Nat} {r:Nat} {k:MBlk} {W':World} (hS:∀ g,ρ.S g→g < W.heap.size) (hno:∀ g,row=some g→¬ ρ.S g) (h:BR ρ W r k) (hg:W.grownBy W' row) (hne:∀ a c,l7 k=true→ρ r=some (some a,c)→row≠some a.block) (hneX:∀ g,ρ.X r g→row≠some g):BR ρ W' r k:=by
 have hk:∀ g,ρ.S g→W'.heap[g]?=W.heap[g]?:=fun g hs=>hg.block g (hS g hs) (fun e=>hno g e.symm hs)
 have hc:∀ {col:Col} {j:Nat} {v:Value},j4 ρ.R W col j v→j4 ρ.R W' col j v:=fun h=>s7 h (fun _ h=>h) (fun g hg=>hk g hg.1)
 cases k with
 | cells cs =>
  obtain⟨b,t,vs,c,h1,h2,h3,h4⟩:=h
  exact⟨b,t,vs,c,h1,h2,(hg.block b (z0j.1 h3).1 (fun e=>hne _ _ rfl h1 e.symm)).trans h3,h4⟩
 | old cs =>
  obtain⟨a,c,h1,h2,h3⟩:=h
  refine⟨a,c,h1,h2,fun j x hx=>?_⟩
  obtain⟨v,hv,hd⟩:=h3 j x hx
  exact⟨v,(z2e (hk _ (by rw[block_add]; exact h2))).trans hv,hd⟩
 | arr n cols =>
  obtain⟨A,c,h1,hn0,h2⟩:=h
  refine⟨A,c,h1,hn0,fun hn=>?_⟩
  obtain⟨a,ha,hlt,h3⟩:=h2 hn
  refine⟨a,ha,hlt,fun j hj k col hcol=>?_⟩
  obtain⟨v,hv,hd⟩:=h3 j hj k col hcol
  exact⟨v,(z2e (hk _ (by rw[block_add]; exact hlt))).trans hv,hc hd⟩
 | oarr e n cols =>
  obtain⟨A,c,vs,h1,h2,h3,h4,h5⟩:=h
  refine⟨A,c,vs,h1,h2.kept hg ?_,h3,h4,fun j hj k col hcol=>?_⟩
  ·cases A with
   | none=>exact .inl rfl
   | some a=>exact .inr (fun e=>hne a c rfl h1 (by simpa [Value.ownBlock] using e.symm))
  ·obtain⟨v,hv,hd⟩:=h5 j hj k col hcol
   exact⟨v,hv,hc hd⟩
 | mapi k k' f =>
  obtain⟨b,es,clock,c,h1,h2,h3,h4⟩:=h
  exact⟨b,es,clock,c,h1,h2,(hg.block b (z0j.1 h3).1 (fun e=>hne _ _ rfl h1 e.symm)).trans h3,h4⟩
 | mapp f =>
  obtain⟨b,es,clock,c,h1,h2,h3,h4⟩:=h
  exact⟨b,es,clock,c,h1,h2,(hg.block b (z0j.1 h3).1 (fun e=>hne _ _ rfl h1 e.symm)).trans h3,h4⟩
 | fmapp f =>
  obtain⟨b,es,clock,c,h1,h2,h3,h4⟩:=h
  exact⟨b,es,clock,c,h1,h2,(hk b h2).trans h3,h4⟩
 | iterp f cur =>
  obtain⟨g,b,since,seen,c0,es,clock,c,h1,h2,h3,h4,h5,h6⟩:=h
  exact⟨g,b,since,seen,c0,es,clock,c,h1,h2,(hg.block g (z0j.1 h3).1 (fun e=>hne _ _ rfl h1 e.symm)).trans h3,h4,(hk b h4).trans h5,h6⟩
 | orows e e' n hole link len gs =>
  obtain⟨A,c,vs,h1,h2,h3,h4,h5,h6,h7⟩:=h
  refine⟨A,c,vs,h1,h2.kept hg ?_,h3,h4,fun j hj hh=>?_,h6,h7⟩
  ·cases A with
   | none=>exact .inl rfl
   | some a=>exact .inr (fun e=>hne a c rfl h1 (by simpa [Value.ownBlock] using e.symm))
  ·obtain⟨B,d,us,e1,e2,e3,e4⟩:=h5 j hj hh
   refine⟨B,d,us,e1,e2.kept hg ?_,e3,e4⟩
   cases B with
   | none=>exact .inl rfl
   | some b=>exact .inr (fun e=>hneX _ (e3 b rfl) (by simpa [Value.ownBlock] using e.symm))
 | stk cs vs=>exact h
 | lup st us cd =>
  obtain⟨b,fn,D,c,h1,h2,h3⟩:=h
  exact⟨b,fn,D,c,h1,h2,(hg.block b (z0j.1 h3).1 (fun e=>hne _ _ rfl h1 e.symm)).trans h3⟩
 | gone=>trivial
theorem a19 (l:List Nat) (m:List MBlk) (r:Nat):(x6 l m)[r]?=(m[r]?).map (l9 l):=by
 induction m generalizing r with
 | nil=>simp[x6]
 | cons k m ih=>cases r <;> simp[x6,ih]
theorem b5m (l:List Nat) (k:MBlk):l7 (l9 l k)=l7 k:=by cases k <;> rfl
theorem z6 (l:List Nat) (m:List MBlk):(x6 l m).length=m.length:=by
 induction m with
 | nil=>rfl
 | cons k m ih=>simp[x6,ih]
theorem BR.struck {r:Nat} {k:MBlk} {σ:Env} {l:List Nat} (h:BR ρ W r k) (hr:r ∉ l) (hle:∀ r y,r ∉ l→ρ r=some y→σ r=some y) (hS:∀ g,ρ.S g→σ.S g) (hT:∀ g,ρ.T g→σ.T g) (hno:∀ a c,l7 k=true→ρ r=some (some a,c)→¬ σ.S a.block) (hX:∀ g,ρ.X r g→σ.X r g):BR σ W r (l9 l k):=by
 have hc:∀ {col:Col} {j:Nat} {v:Value},j4 ρ.R W col j v→j4 σ.R W col j v:=fun h=>s7 h (fun g hg=>⟨hS g hg.1,hT g hg.2⟩) (fun _ _=>rfl)
 cases k with
 | cells cs =>
  obtain⟨g,t,vs,c,h1,h2,h3,h4⟩:=h
  exact⟨g,t,vs,c,hle _ _ hr h1,hno _ _ rfl h1,h3,h4.kill hle⟩
 | old cs =>
  obtain⟨a,c,h1,h2,h3⟩:=h
  refine⟨a,c,hle _ _ hr h1,hS _ h2,fun j x hx=>?_⟩
  rw[a09,z0h] at hx
  obtain⟨y,hy,rfl⟩:=hx
  obtain⟨v,hv,hd⟩:=h3 j y hy
  exact⟨v,hv,hd.kill hle⟩
 | arr n cols =>
  obtain⟨A,c,h1,hn0,h2⟩:=h
  refine⟨A,c,hle _ _ hr h1,hn0,fun hn=>?_⟩
  obtain⟨a,ha,hlt,h3⟩:=h2 hn
  refine⟨a,ha,hS _ hlt,fun j hj k col hcol=>?_⟩
  obtain⟨v,hv,hd⟩:=h3 j hj k col hcol
  exact⟨v,hv,hc hd⟩
 | oarr e n cols =>
  obtain⟨A,c,vs,h1,h2,h3,h4,h5⟩:=h
  refine⟨A,c,vs,hle _ _ hr h1,h2,fun a ha=>hno a c rfl (by rw[h1,ha]),h4,fun j hj k col hcol=>?_⟩
  obtain⟨v,hv,hd⟩:=h5 j hj k col hcol
  exact⟨v,hv,hc hd⟩
 | mapi k k' f =>
  obtain⟨g,es,clock,c,h1,h2,h3,h4⟩:=h
  exact⟨g,es,clock,c,hle _ _ hr h1,hno _ _ rfl h1,h3,h4⟩
 | mapp f =>
  obtain⟨g,es,clock,c,h1,h2,h3,h4⟩:=h
  exact⟨g,es,clock,c,hle _ _ hr h1,hno _ _ rfl h1,h3,h4⟩
 | fmapp f =>
  obtain⟨g,es,clock,c,h1,h2,h3,h4⟩:=h
  exact⟨g,es,clock,c,hle _ _ hr h1,hS _ h2,h3,h4⟩
 | iterp f cur =>
  obtain⟨g,b,since,seen,c0,es,clock,c,h1,h2,h3,h4,h5,h6⟩:=h
  exact⟨g,b,since,seen,c0,es,clock,c,hle _ _ hr h1,hno _ _ rfl h1,h3,hS _ h4,h5,h6⟩
 | orows e e' n hole link len gs =>
  obtain⟨A,c,vs,h1,h2,h3,h4,h5,h6,h7⟩:=h
  refine⟨A,c,vs,hle _ _ hr h1,h2,fun a ha=>hno a c rfl (by rw[h1,ha]),h4,fun j hj hh=>?_,h6,fun j q hj hq=>?_⟩
  rotate_left
  ·cases link with
   | none=>simp[a4o] at hq
   | some q0 =>
    simp only[a4o] at hq
    cases hm:y4 q0 l
    ·simp only[hm,z0m,z0a] at hq
     subst hq
     obtain⟨B,d,e1,e2⟩:=h7 j q0 hj rfl
     exact⟨B,d,hle _ _ (fun h=>by rw[a0s.2 h] at hm; cases hm) e1,e2⟩
    ·simp[hm] at hq
  obtain⟨B,d,us,e1,e2,e3,e4⟩:=h5 j hj hh
  exact⟨B,d,us,e1,e2,fun b hb=>hX _ (e3 b hb),e4⟩
 | stk cs vs=>exact DenL.kill h hle
 | lup st us cd =>
  obtain⟨g,fn,D,c,h1,h2,h3⟩:=h
  exact⟨g,fn,D,c,hle _ _ hr h1,hno _ _ rfl h1,h3⟩
 | gone=>trivial
theorem c0o (x:SV):a3w [] x=x:=by
 have h1:∀(y:SV),y.refs []=false:=by
  intro y
  induction y using SV.rec (motive_2:=fun xs=>a3t xs []=false) <;> simp_all [SV.refs,a3t,y4]
 simp[a3w,h1]
theorem b4n (xs:List SV):q9 [] xs=xs:=by
 induction xs with
 | nil=>rfl
 | cons x r ih=>simp[q9,ih,c0o]
theorem t8 (m:List MBlk):x6 [] m=m:=by
 induction m with
 | nil=>rfl
 | cons k m ih =>
  have:l9 [] k=k:=by
   cases k <;> simp[l9,b4n]
   rename_i lk _ _
   cases lk <;> simp[a4o,y4]
  simp[x6,ih,this]
theorem MR.turn {W':World} {row:Option Nat} {r:Nat} {k0 k':MBlk} {x:Option Addr × Nat} (hm:MR K w0 W ρ m) (hr:m[r]?=some k0) (h0:l7 k0=true) (hρr:ρ r≠none) (hg:W.grownBy W' row) (hrow:∀ g,row=some g→∃ a c,ρ r=some (some a,c)∧a.block=g)
  (hx:∀ a,x.1=some a→(∃ b c,ρ r=some (some b,c)∧b.block=a.block)∨W.heap.size≤a.block) (hk:BR (ρ.with r x) W' r k') :
  MR K w0 W' (ρ.with r x) (i4 (x6 [r] m) r k'):=by
 have hrm:r < m.length:=(z0c.1 hr).1
 have hno:∀ g,row=some g→¬ ρ.S g:=fun g e=>by
  obtain⟨a,c,ha,rfl⟩:=hrow g e
  exact(t9 (hm.blk r k0 hr hρr) h0 ha).1
 have hσk:∀ s y,s ∉ [r]→ρ s=some y→(ρ.with r x) s=some y:=fun s y hs hy=>by rw[Env.with_ne _ _ (by simpa using hs)]; exact hy
 have hne:∀ s l,m[s]?=some l→s≠r→∀ b d,l7 l=true→ρ s=some (some b,d)→∀ a,x.1=some a→b.block≠a.block:=fun s l hl hsr b d ho hb a ha e=>by
  rcases hx a ha with⟨b',c',hb',e'⟩ | hge
  ·exact hsr (hm.sep s r l k0 b b' d c' hl hr ho h0 hb hb' (e.trans e'.symm))
  ·have:=(t9 (hm.blk s l hl (by rw[hb]; simp)) ho hb).2
   omega
 refine⟨hm.sub,fun g hg=>hm.rows g hg,fun g hs=>z2c (hm.hS g hs) hg.size,hm.below.trans (.of_grown hg fun g hs=>⟨hm.hS g (hm.sub g hs),fun e=>hno g e (hm.sub g hs)⟩),fun s l hl hs'=>?_,fun s hs'=>?_,fun s g hx=>by obtain⟨h1,h2,h3⟩:=hm.xlt s g hx; exact⟨by rw[d8,z6]; exact h1,h2,z2c h3 hg.size⟩,hm.xsep,fun s g q l a c hxs hl ho hq=>?_,?_⟩
 ·rw[j7,z6] at hl
  by_cases e:s=r
  ·subst e
   rw[if_pos ⟨rfl,hrm⟩] at hl
   simp only[z0a] at hl
   subst hl
   exact hk
  ·rw[if_neg (by omega),a19,z0h] at hl
   obtain⟨l0,hl0,rfl⟩:=hl
   have hne':ρ s≠none:=by rw[← Env.with_ne ρ x e]; exact hs'
   have hw:=(hm.blk s l0 hl0 hne').other hm.hS hno hg (fun a c ho ha e2=>by
    obtain⟨a',c',ha',e3⟩:=hrow _ e2
    exact e (hm.sep s r l0 k0 a a' c c' hl0 hr ho h0 ha ha' e3.symm)) (fun g hxs e2=>by
    obtain⟨a',c',ha',e3⟩:=hrow _ e2
    exact hm.xown s g r k0 a' c' hxs hr h0 ha' e3)
   have hst:=hw.struck (by simpa using e) hσk (fun g (h:ρ.S g)=>h) (fun g (h:ρ.T g)=>h) (fun a c ho ha=>(t9 hw ho ha).1) (fun g h=>h)
   exact hst
 ·rw[d8,z6]
  by_cases e:s=r
  ·subst e; exact hrm
  ·exact hm.dom s (by rw[← Env.with_ne ρ x e]; exact hs')
 ·rw[j7,z6] at hl
  by_cases e:q=r
  ·subst e
   rw[Env.with_same,z0a] at hq
   rcases hx a (by rw[hq]) with⟨b,d,hb,e2⟩ | hge
   ·rw[← e2]
    exact hm.xown s g q k0 b d hxs hr h0 hb
   ·have:=(hm.xlt s g hxs).2.2
    omega
  ·rw[if_neg (by omega),a19,z0h] at hl
   obtain⟨l0,hl0,rfl⟩:=hl
   rw[Env.with_ne _ _ e] at hq
   exact hm.xown s g q l0 a c hxs hl0 (by rw[b5m] at ho; exact ho) hq
 ·have key:∀ {s:Nat} {l:MBlk},s≠r→(i4 (x6 [r] m) r k')[s]?=some l→∃ l0,m[s]?=some l0∧l7 l0=l7 l:=fun {s l} hs hl=>by
   rw[j7,z6,if_neg (by omega),a19,z0h] at hl
   obtain⟨l0,hl0,rfl⟩:=hl
   exact⟨l0,hl0,(b5m _ _).symm⟩
  intro s1 s2 l1 l2 a1 a2 c1 c2 hl1 hl2 ho1 ho2 hr1 hr2 hb
  by_cases e1:s1=r <;> by_cases e2:s2=r
  ·rw[e1,e2]
  ·subst e1
   obtain⟨q,hq,eq⟩:=key e2 hl2
   rw[Env.with_same,z0a] at hr1
   rw[Env.with_ne _ _ e2] at hr2
   exact absurd hb.symm (hne s2 q hq e2 a2 c2 (eq.trans ho2) hr2 a1 (by rw[hr1]))
  ·subst e2
   obtain⟨q,hq,eq⟩:=key e1 hl1
   rw[Env.with_same,z0a] at hr2
   rw[Env.with_ne _ _ e1] at hr1
   exact absurd hb (hne s1 q hq e1 a1 c1 (eq.trans ho1) hr1 a2 (by rw[hr2]))
  ·obtain⟨q1,hq1,eq1⟩:=key e1 hl1
   obtain⟨q2,hq2,eq2⟩:=key e2 hl2
   rw[Env.with_ne _ _ e1] at hr1
   rw[Env.with_ne _ _ e2] at hr2
   exact hm.sep s1 s2 q1 q2 a1 a2 c1 c2 hq1 hq2 (eq1.trans ho1) (eq2.trans ho2) hr1 hr2 hb
theorem MR.keep {W':World} {row:Option Nat} {r:Nat} {k0 k':MBlk} (hm:MR K w0 W ρ m) (hr:m[r]?=some k0) (h0:l7 k0=true) (hρr:ρ r≠none) (hg:W.grownBy W' row) (hrow:∀ g,row=some g→∃ a c,ρ r=some (some a,c)∧a.block=g)
  (hk:BR ρ W' r k'):MR K w0 W' ρ (i4 m r k'):=by
 have hrm:r < m.length:=(z0c.1 hr).1
 have hno:∀ g,row=some g→¬ ρ.S g:=fun g e=>by
  obtain⟨a,c,ha,rfl⟩:=hrow g e
  exact(t9 (hm.blk r k0 hr hρr) h0 ha).1
 refine⟨hm.sub,hm.rows,fun g hs=>z2c (hm.hS g hs) hg.size,hm.below.trans (.of_grown hg fun g hs=>⟨hm.hS g (hm.sub g hs),fun e=>hno g e (hm.sub g hs)⟩),fun s l hl hs'=>?_,fun s hs'=>by rw[d8]; exact hm.dom s hs',fun s g hx=>by obtain⟨h1,h2,h3⟩:=hm.xlt s g hx; exact⟨by rw[d8]; exact h1,h2,z2c h3 hg.size⟩,hm.xsep,fun s g q l a c hxs hl ho hq=>?_,?_⟩
 ·rw[j7] at hl
  by_cases e:s=r
  ·subst e
   rw[if_pos ⟨rfl,hrm⟩] at hl
   simp only[z0a] at hl
   subst hl
   exact hk
  ·rw[if_neg (by omega)] at hl
   exact(hm.blk s l hl hs').other hm.hS hno hg (fun a c ho ha e2=>by
    obtain⟨a',c',ha',e3⟩:=hrow _ e2
    exact e (hm.sep s r l k0 a a' c c' hl hr ho h0 ha ha' e3.symm)) (fun g hxs e2=>by
    obtain⟨a',c',ha',e3⟩:=hrow _ e2
    exact hm.xown s g r k0 a' c' hxs hr h0 ha' e3)
 ·rw[j7] at hl
  by_cases e:q=r
  ·subst e; exact hm.xown s g q k0 a c hxs hr h0 hq
  ·rw[if_neg (by omega)] at hl
   exact hm.xown s g q l a c hxs hl ho hq
 ·have key:∀ {s:Nat} {l:MBlk},(i4 m r k')[s]?=some l→l7 l=true→∃ l0,m[s]?=some l0∧l7 l0=true:=fun {s l} hl ho=>by
   rw[j7] at hl
   by_cases e:s=r
   ·subst e; exact⟨k0,hr,h0⟩
   ·rw[if_neg (by omega)] at hl
    exact⟨l,hl,ho⟩
  intro s1 s2 k1 k2 a1 a2 c1 c2 hk1 hk2 ho1 ho2 hr1 hr2 hb
  obtain⟨l1,hl1,e1⟩:=key hk1 ho1
  obtain⟨l2,hl2,e2⟩:=key hk2 ho2
  exact hm.sep s1 s2 l1 l2 a1 a2 c1 c2 hl1 hl2 e1 e2 hr1 hr2 hb
theorem c1u:∀ {cs:List Col} {off ix:Nat} {vs:List SV} {cs':List Col},a4t cs off ix vs=some cs'→cs'.length=cs.length∧(0 < vs.length→off + vs.length≤cs.length) ∧
  ∀(k:Nat) (c':Col),cs'[k]?=some c'→∃ c,cs[k]?=some c∧(if off≤k∧k < off + vs.length then ∃ x,vs[k - off]?=some x∧b0s c ix x=some c' else c'=c):=by
 intro cs
 induction cs with
 | nil =>
  intro off ix vs cs' h
  cases off <;> cases vs <;> simp[a4t] at h
  subst h
  simp
 | cons c r ih =>
  intro off ix vs cs' h
  cases off with
  | zero =>
   cases vs with
   | nil =>
    simp only[a4t,z0a] at h
    subst h
    refine⟨rfl,by simp,fun k c' hk=>⟨c',hk,by simp⟩⟩
   | cons v vs =>
    simp only[a4t] at h
    split at h
    ·rename_i c1 r1 hc1 hr1
     simp only[z0a] at h
     subst h
     obtain⟨h1,h2,h3⟩:=ih hr1
     refine⟨by simp[h1],fun _=>?_,fun k c' hk=>?_⟩
     ·cases vs with
      | nil=>simp
      | cons=>simp at h2 ⊢; omega
     cases k with
     | zero=>simp at hk; subst hk; exact⟨c,rfl,by simp[hc1]⟩
     | succ k =>
      obtain⟨c0,hc0,hcc⟩:=h3 k c' (by simpa using hk)
      refine⟨c0,by simpa using hc0,?_⟩
      by_cases hb:0≤k∧k < 0 + vs.length
      ·rw[if_pos hb] at hcc
       rw[if_pos (by simp; omega)]
       simpa using hcc
      ·rw[if_neg hb] at hcc
       rw[if_neg (by simp; omega)]
       exact hcc
    ·cases h
  | succ off =>
   simp only[a4t] at h
   split at h
   ·rename_i r1 hr1
    simp only[z0a] at h
    subst h
    obtain⟨h1,h2,h3⟩:=ih hr1
    refine⟨by simp[h1],fun h0=>by have:=h2 h0; simp; omega,fun k c' hk=>?_⟩
    cases k with
    | zero=>simp at hk; subst hk; exact⟨c,rfl,by simp⟩
    | succ k =>
     obtain⟨c0,hc0,hcc⟩:=h3 k c' (by simpa using hk)
     refine⟨c0,by simpa using hc0,?_⟩
     by_cases hb:off≤k∧k < off + vs.length
     ·rw[if_pos hb] at hcc
      rw[if_pos (by omega),show k + 1 - (off + 1)=k - off by omega]
      exact hcc
     ·rw[if_neg hb] at hcc
      rw[if_neg (by omega)]
      exact hcc
   ·cases h
theorem c58 {S:Nat→Prop} {W':World} {c c':Col} {ix:Nat} {x:SV} {u:Value} (h:b0s c ix x=some c') (hd:Den ρ x u):j4 S W' c' ix u:=by
 unfold b0s at h
 split at h
 ·rename_i k g k' a
  cases hk:kEq k k'
  ·simp[hk] at h
  ·simp only[hk,z0f,z0a] at h
   subst h
   obtain rfl:=u4.1 hk
   simp only[j4,z2g,z0f]
   exact hd.i_inv
 ·split at h
  ·rename_i b hb
   simp only[z0a] at h
   subst h
   simp only[j4,z2g,z0f]
   exact hd.bOf hb
  ·cases h
 ·cases h
theorem c1t {S:Nat→Prop} {W':World} {c c':Col} {ix j:Nat} {x:SV} {u:Value} (h:b0s c ix x=some c') (hj:j≠ix) (hd:j4 S W' c j u):j4 S W' c' j u:=by
 have hb:Nat.beq j ix=false:=z0z.2 fun e=>hj (z0b e)
 unfold b0s at h
 split at h
 ·rename_i k g k' a
  cases hk:kEq k k'
  ·simp[hk] at h
  ·simp only[hk,z0f,z0a] at h
   subst h
   simp only[j4,hb,z0m] at hd ⊢
   exact hd
 ·split at h
  ·simp only[z0a] at h
   subst h
   simp only[j4,hb,z0m] at hd ⊢
   exact hd
  ·cases h
 ·cases h
theorem b2d:∀ {cols:List Col} {gl:List (Nat→Int)},a87 cols=some gl→gl.length=cols.length∧∀(k:Nat) (g:Nat→Int),gl[k]?=some g→cols[k]?=some (.int .i64 g):=by
 intro cols
 induction cols with
 | nil=>intro gl h; simp only[a87,z0a] at h; subst h; simp
 | cons c r ih =>
  intro gl h
  unfold a87 at h
  split at h
  ·simp at *
  ·rename_i g r' heq
   simp only[z3j] at heq
   obtain⟨rfl,rfl⟩:=heq
   split at h
   ·rename_i l hl
    simp only[z0a] at h
    subst h
    obtain⟨h1,h2⟩:=ih hl
    refine⟨by simp[h1],fun k g' hk=>?_⟩
    cases k with
    | zero=>simp at hk; subst hk; rfl
    | succ k=>simpa using h2 k g' (by simpa using hk)
   ·cases h
  ·cases h
theorem b9u (ix:Nat):∀ {gs:List (Nat→Nat→Int)} {gl:List (Nat→Int)},gs.length=gl.length→(b0t ix gs gl).length=gs.length∧∀(k:Nat) (g:Nat→Nat→Int),(b0t ix gs gl)[k]?=some g→∃ g0 h0,gs[k]?=some g0∧gl[k]?=some h0∧g=fun j=>bif Nat.beq j ix then h0 else g0 j:=by
 intro gs
 induction gs with
 | nil=>intro gl _; cases gl <;> simp[b0t]
 | cons x r ih =>
  intro gl h
  cases gl with
  | nil=>simp at h
  | cons y s =>
   obtain⟨h1,h2⟩:=ih (gl:=s) (by simpa using h)
   refine⟨by simp[b0t,h1],fun k g hk=>?_⟩
   cases k with
   | zero=>simp[b0t] at hk; exact⟨x,y,rfl,rfl,hk.symm⟩
   | succ k=>simpa using h2 k g (by simpa [b0t] using hk)
theorem c77 {t:Nat} {x y:Operand} {ti:TI} {r q ix e e' n k:Nat} {len:Nat→Nat} {gs:List (Nat→Nat→Int)} {cols:List Col} {gl:List (Nat→Int)} (hT:TabOk P T) (hm:MR K w0 W ρ m) (ho:o.op=.store t x y) (hti:g7 T.types t=some ti) (hsz1:ti.size=1)
  (hdx:Den ρ (.pix r 1 ix 0) (a.eval x)) (hdy:Den ρ (.sl q k) (a.eval y)) {lk:Option Nat} (hr:m[r]?=some (.orows e e' n (some ix) lk len gs)) (hq:m[q]?=some (.oarr e' k cols)) (hgl:a87 cols=some gl) (hlen:gs.length=cols.length) (hne:r≠q) (hix:ix < n) :
  OpTo P a o W (a2y K w0 ρ m ⟨[ix < n,ix=ix,k=k],.v undef,[],[(r,.orows e e' n none none (fun j=>bif Nat.beq j ix then k else len j) (b0t ix gs gl)),(q,.gone)],[]⟩):=by
 obtain⟨p,kc,hρ,ex⟩:=hdx.pix_inv
 obtain⟨A,c,hρq,ey,_⟩:=hdy.sl_inv
 obtain⟨g1,g2⟩:=b2d hgl
 obtain⟨u1,u2⟩:=b9u ix (gs:=gs) (gl:=gl) (by omega)
 have hrm:=(z0c.1 hr).1
 have hqm:=(z0c.1 hq).1
 obtain⟨A0,c0,vs,h1,h2,h3,h4,h5,h6,h7⟩:=hm.blk r _ hr (by rw[hρ]; simp)
 rw[hρ] at h1
 simp only[z0a,z0g] at h1
 obtain⟨rfl,rfl⟩:=h1
 obtain⟨A1,c1,us,b1,b2,b3,b4,b5⟩:=hm.blk q _ hq (by rw[hρq]; simp)
 rw[hρq] at b1
 simp only[z0a,z0g] at b1
 obtain⟨rfl,rfl⟩:=b1
 obtain⟨i,hi,hsz,_,_⟩:=s4 (hT.types t ti hti)
 obtain⟨hl0,h2'⟩:=h2
 rcases h2' with⟨h4',_⟩ | ⟨g,cap,cur,h4',_,hh,hnc,hcm,hcs,htk⟩
 ·cases h4'
 simp only[z0y,z0a,true_and] at h4'
 obtain⟨rfl,rfl⟩:=h4'
 obtain⟨W',vs',r1,r2,r3,r4,r5,r6⟩:=a1d (P:=P) ix [.slice A k c] 0 W cur hh (by rw[hcs]; simp; omega) (by simp[Value.oneCell'])
 have hrun:(execOp a.eval o).run P W=.ok .skip W':=by
  have e1:(Addr.add ⟨g,0,none⟩ (ix * 1 + 0))=⟨g,ix,none⟩:=by rw[a5b]; simp
  simp only[execOp,ho,ex,Instr.storeAt,Instr.sureAddr,e1,z1a,z3g,z0o]
  have e2:(storeVar t ⟨g,ix,none⟩ (a.eval y)).run P W=.ok () W':=by
   simp[storeVar,sizeOf,typeInfo,hi,hsz,hsz1,ey,Value.cells,r1]
  simp[e2]
 let σ:Env:=⟨ρ.f,ρ.S,ρ.T,fun s b=>ρ.X s b∨(s=r∧∃ ad,A=some ad∧ad.block=b)⟩
 have hXle:∀ s b,ρ.X s b→σ.X s b:=fun s b h=>.inl h
 have hownq:∀ ad,A=some ad→¬ ρ.S ad.block∧ad.block < W.heap.size:=fun ad ha=>t9 (hm.blk q _ hq (by rw[hρq]; simp)) rfl (by rw[hρq,ha])
 have hownr:¬ ρ.S g∧g < W.heap.size:=t9 (a:=⟨g,0,none⟩) (hm.blk r _ hr (by rw[hρ]; simp)) rfl hρ
 have hqg:∀ ad,A=some ad→ad.block≠g:=fun ad ha e=>hne (hm.sep r q _ _ ⟨g,0,none⟩ ad kc c hr hq rfl rfl hρ (by rw[hρq,ha]) e.symm)
 have hXg:∀ s b,ρ.X s b→b≠g:=fun s b hx e=>hm.xown s b r _ ⟨g,0,none⟩ kc hx hr rfl hρ e.symm
 have mget:∀(s:Nat) (l:MBlk),(i4 (i4 m r (.orows e e' n none none (fun j=>bif Nat.beq j ix then k else len j) (b0t ix gs gl))) q .gone)[s]?=some l→(s=q∧l=.gone)∨(s=r∧l=.orows e e' n none none (fun j=>bif Nat.beq j ix then k else len j) (b0t ix gs gl))∨(s≠q∧s≠r∧m[s]?=some l):=fun s l hl=>by
  rw[j7,d8,j7] at hl
  by_cases e1:s=q
  ·subst e1
   rw[if_pos ⟨rfl,hqm⟩] at hl
   exact .inl ⟨rfl,by simpa using hl.symm⟩
  ·rw[if_neg (by omega)] at hl
   by_cases e2:s=r
   ·subst e2
    rw[if_pos ⟨rfl,hrm⟩] at hl
    exact .inr (.inl ⟨rfl,by simpa using hl.symm⟩)
   ·rw[if_neg (by omega)] at hl
    exact .inr (.inr ⟨e1,e2,hl⟩)
 have mown:∀(s:Nat) (l:MBlk),(i4 (i4 m r (.orows e e' n none none (fun j=>bif Nat.beq j ix then k else len j) (b0t ix gs gl))) q .gone)[s]?=some l→l7 l=true→s≠q∧∃ l0,m[s]?=some l0∧l7 l0=true:=fun s l hl ho=>by
  rcases mget s l hl with⟨_,rfl⟩ | ⟨rfl,rfl⟩ | ⟨e1,_,hl⟩
  ·simp[l7] at ho
  ·exact⟨hne,_,hr,rfl⟩
  ·exact⟨e1,l,hl,ho⟩
 unfold OpTo
 rw[hrun]
 refine⟨σ,fun r y _ h=>h,.v _,?_⟩
 simp only[t8,t4,z1f]
 have hvget:∀ j,j < n→(vs'.toList.take (n * 1))[j]?=if j=ix then some (.slice A k c) else vs[j]?:=fun j hj=>by
  rw[z1u,if_pos (by omega)]
  have:=r4 j
  simp only[z1i,z2i] at this
  by_cases e:j=ix
  ·subst e
   rw[if_pos ⟨z0q _,by omega⟩] at this
   rw[if_pos rfl]
   simpa using this
  ·rw[if_neg (by omega)] at this
   rw[if_neg e,← htk,z1u,if_pos (by omega)]
   simpa using this
 have hbeq:∀ {j:Nat},j≠ix→Nat.beq j ix=false:=fun {j} e=>z0z.2 fun hb=>e (z0b hb)
 refine⟨hm.sub,hm.rows,fun b hb=>z2c (hm.hS b hb) r5.size,hm.below.trans (.of_grown r5 fun b hb=>⟨hm.hS b (hm.sub b hb),fun e=>by injection e with e; subst e; exact hownr.1 (hm.sub _ hb)⟩),fun s l hl hs'=>?_,fun s hs'=>by rw[d8,d8]; exact hm.dom s hs',fun s b hx=>?_,fun s1 s2 b hx1 hx2=>?_,fun s b s2 l ad cc hx hl ho2 hs2=>?_,?_⟩
 ·rcases mget s l hl with⟨_,rfl⟩ | ⟨rfl,rfl⟩ | ⟨e1,e2,hl⟩
  ·trivial
  ·refine⟨_,kc,vs'.toList.take (n * 1),hρ,⟨?_,.inr ⟨g,kc,vs',rfl,z2j _,r2,hnc,hcm,by rw[r3,hcs],rfl⟩⟩,h3,by rw[u1]; exact h4,fun j hj _=>?_,fun j j' B l d B' l' d' hj hj' _ _ hv hv' hb=>?_,fun j q hj _=>(by cases hj)⟩
   ·have:vs'.toList.length=kc * 1:=by simp[r3,hcs]
    rw[List.length_take,this]
    omega
   ·by_cases e:j=ix
    ·subst e
     refine⟨A,c,us,?_,?_,fun b hb=>.inr ⟨rfl,b,hb,rfl⟩,fun i hi k2 g' hg'=>?_⟩
     ·rw[hvget j hj,if_pos rfl]; simp
     ·simp only[z2g,z0f]
      rw[u1,hlen]
      refine b2.kept r5 ?_
      cases A with
      | none=>exact .inl rfl
      | some ad=>exact .inr (fun e=>hqg ad rfl (by simpa [Value.ownBlock] using e))
     ·simp only[z2g,z0f] at hi
      obtain⟨g0,h0,e1,e2,rfl⟩:=u2 k2 g' hg'
      obtain⟨v,hv,hd⟩:=b5 i hi k2 _ (g2 k2 h0 e2)
      simp only[j4] at hd
      subst hd
      simp only[z2g,z0f]
      rw[u1,hlen]
      exact hv
    ·obtain⟨B,d,us',e1,e2,e3,e4⟩:=h5 j hj (fun e2=>e (by simpa using e2.symm))
     refine⟨B,d,us',?_,?_,fun b hb=>.inl (e3 b hb),fun i hi k2 g' hg'=>?_⟩
     ·rw[hvget j hj,if_neg e]; simp only[hbeq e,z0m]; exact e1
     ·simp only[hbeq e,z0m]
      rw[u1]
      refine e2.kept r5 ?_
      cases B with
      | none=>exact .inl rfl
      | some b=>exact .inr (fun e=>hXg _ _ (e3 b rfl) (by simpa [Value.ownBlock] using e))
     ·simp only[hbeq e,z0m] at hi
      obtain⟨g0,h0,f1,f2,rfl⟩:=u2 k2 g' hg'
      simp only[hbeq e,z0m]
      rw[u1]
      exact e4 i hi k2 g0 f1
   ·rw[hvget j hj] at hv
    rw[hvget j' hj'] at hv'
    have mix:∀ {j2:Nat} {B2:Addr} {l2 d2:Nat} {Bq:Addr},j2 < n→j2≠ix→vs[j2]?=some (.slice (some B2) l2 d2)→A=some Bq→Bq.block=B2.block→False:=fun {j2 B2 l2 d2 Bq} hj2 e hv2 hA hbl=>by
     obtain⟨B,d,us',e1,_,e3,_⟩:=h5 j2 hj2 (fun e2=>e (by simpa using e2.symm))
     rw[e1] at hv2
     simp only[z0a,z0y] at hv2
     exact hm.xown _ _ q _ Bq c (e3 B2 hv2.1) hq rfl (by rw[hρq,hA]) hbl
    by_cases e:j=ix <;> by_cases e':j'=ix
    ·rw[e,e']
    ·rw[if_pos e] at hv
     rw[if_neg e'] at hv'
     simp only[z0a,z0y] at hv
     exact(mix hj' e' hv' hv.1 hb).elim
    ·rw[if_neg e] at hv
     rw[if_pos e'] at hv'
     simp only[z0a,z0y] at hv'
     exact(mix hj e hv hv'.1 hb.symm).elim
    ·rw[if_neg e] at hv
     rw[if_neg e'] at hv'
     exact h6 j j' B l d B' l' d' hj hj' (fun e2=>e (by simpa using e2.symm)) (fun e2=>e' (by simpa using e2.symm)) hv hv' hb
  ·have h0:=(hm.blk s l hl hs').other hm.hS (fun b e=>by injection e with e; subst e; exact hownr.1) r5 (fun ad cc ho ha e=>by
    injection e with e
    exact e2 (hm.sep s r l _ ad ⟨g,0,none⟩ cc kc hl hr ho rfl ha hρ e.symm)) (fun b hx e=>by injection e with e; exact hXg s b hx e.symm)
   exact h0.mono (fun _ _ h=>h) (fun _ h=>h) (fun _ h=>h) (fun ad cc ho ha=>(t9 h0 ho ha).1) (fun b hb=>.inl hb)
 ·rcases hx with hx | ⟨rfl,ad,ha,rfl⟩
  ·obtain⟨x1,x2,x3⟩:=hm.xlt s b hx
   exact⟨by rw[d8,d8]; exact x1,x2,z2c x3 r5.size⟩
  ·exact⟨by rw[d8,d8]; exact hrm,(hownq ad ha).1,z2c (hownq ad ha).2 r5.size⟩
 ·have no:∀ s ad,ρ.X s b→A=some ad→ad.block=b→False:=fun s ad hx ha e=>hm.xown s b q _ ad c hx hq rfl (by rw[hρq,ha]) e
  rcases hx1 with hx1 | ⟨rfl,ad,ha,e⟩ <;> rcases hx2 with hx2 | ⟨rfl,ad',ha',e'⟩
  ·exact hm.xsep s1 s2 b hx1 hx2
  ·exact(no _ _ hx1 ha' e').elim
  ·exact(no _ _ hx2 ha e).elim
  ·rfl
 ·obtain⟨sq,l0,hl0,ho0⟩:=mown s2 l hl ho2
  rcases hx with hx | ⟨rfl,ad',ha,rfl⟩
  ·exact hm.xown s b s2 l0 ad cc hx hl0 ho0 hs2
  ·intro e
   exact sq (hm.sep s2 q l0 _ ad ad' cc c hl0 hq ho0 rfl hs2 (by rw[hρq,ha]) e)
 ·intro s1 s2 k1 k2 a1 a2 c1 c2 hk1 hk2 ho1 ho2 hr1 hr2 hb
  obtain⟨_,l1,hl1,p1⟩:=mown s1 k1 hk1 ho1
  obtain⟨_,l2,hl2,p2⟩:=mown s2 k2 hk2 ho2
  exact hm.sep s1 s2 l1 l2 a1 a2 c1 c2 hl1 hl2 p1 p2 hr1 hr2 hb
theorem c7v {t:Nat} {x y:Operand} {b:BRes} (hT:TabOk P T) (hG:GlobOk T ρ) (hm:MR K w0 W ρ m) (ho:o.op=.store t x y) (hs:OpsOk ρ sl a [x,y]) (h:a0x T sl m [] (.store t x y)=some b) (hp:∀ p∈b.pre,p) :
  OpTo P a o W (a2y K w0 ρ m b):=by
 have hc:sat a []:=fun q w hq=>by cases hq
 simp only[a0x] at h
 split at h
 ·rename_i ti r off v hti hx hy
  obtain⟨p,k',hρ,ex⟩:=(f7 hG hx (hs.sub (by simp)) hc).ptr_inv
  have hdy:=f7 hG hy (hs.sub (by simp)) hc
  split at h
  ·rename_i cs xs hcs hxs
   cases hk:(Nat.beq xs.length ti.size && a86 xs)
   ·simp[hk] at h
   ·simp only[hk,z0f] at h
    rw[z0d] at hk
    have hlen:=z0b hk.1
    split at h
    ·rename_i cs' hw
     simp only[z0a] at h
     subst h
     have hcs:=p9 hcs
     obtain⟨w1,w2,w3⟩:=a8q hw
     obtain⟨us,hu,hud⟩:=a4m hxs hdy
     obtain⟨g,ty,vs,c,h1,h2,h3,h4⟩:=hm.blk r _ hcs (by rw[hρ]; simp)
     rw[hρ] at h1
     simp only[z0a,z0g] at h1
     obtain⟨rfl,_⟩:=h1
     obtain⟨i,hi,hsz,_,_⟩:=s4 (hT.types t ti hti)
     have hul:us.length=ti.size:=by rw[hud.1,hlen]
     have hvl:vs.length=cs.length:=h4.1
     obtain⟨W',vs',r1,r2,r3,r4,r5,r6⟩:=a1d (P:=P) off us 0 W vs.toArray h3 (by simp; omega) (b2b hk.2 hud)
     have hrun:(execOp a.eval o).run P W=.ok .skip W':=by
      have e1:(Addr.add ⟨g,0,none⟩ off)=⟨g,off,none⟩:=by rw[a5b]; simp
      simp only[execOp,ho,ex,Instr.storeAt,Instr.sureAddr,e1,z1a,z3g,z0o]
      have e2:(storeVar t ⟨g,off,none⟩ (a.eval y)).run P W=.ok () W':=by
       simp[storeVar,sizeOf,typeInfo,hi,hsz,hu,hul,r1]
      simp[e2]
     unfold OpTo
     rw[hrun]
     refine⟨ρ,fun r y _ h=>h,.v _,?_⟩
     simp only[t8,t4,z1f]
     refine hm.keep hcs rfl (by rw[hρ]; simp) r5 (fun g' e=>by injection e with e; exact⟨_,_,hρ,e⟩) ⟨g,ty,vs'.toList,k',hρ,h2,by simpa using r2,?_⟩
     refine⟨by rw[w1]; simp[r3,hvl],fun j z v hz hv=>?_⟩
     have hv':vs'[j]?=some v:=by simpa using hv
     rw[r4 j] at hv'
     rw[w3 j] at hz
     simp only[z1i] at hv'
     by_cases hj:off≤j∧j < off + us.length
     ·rw[if_pos hj] at hv'
      rw[if_pos (by omega)] at hz
      exact hud.2 _ z v hz hv'
     ·rw[if_neg hj] at hv'
      rw[if_neg (by omega)] at hz
      exact h4.2 j z v hz (by simpa using hv')
    ·cases h
  ·cases h
 ·rename_i ti r sz ix q k hti hx hy
  split at h
  ·rename_i e e' n hh lk len gs e2 n2 cols hr hq
   split at h
   ·rename_i gl hgl
    cases hk:(Nat.beq ti.size 1 && Nat.beq sz 1 && Nat.beq e' e2 && Nat.beq gs.length cols.length && !(Nat.beq r q))
    ·rw[hk] at h; cases h
    ·simp only[hk,z0f,z0a] at h
     subst h
     simp only[z0d,z0x] at hk
     obtain⟨⟨⟨⟨k1,k2⟩,k3⟩,k4⟩,k5⟩:=hk
     obtain rfl:=z0b k2
     obtain rfl:=z0b k3
     have p1:ix < n:=hp _ (by simp)
     have p2:ix=hh:=hp _ (by simp)
     have p3:k=n2:=hp _ (by simp)
     subst p2 p3
     exact c77 hT hm ho hti (z0b k1) (f7 hG hx (hs.sub (by simp)) hc) (f7 hG hy (hs.sub (by simp)) hc) (p9 hr) (p9 hq) hgl (z0b k4) (fun e=>by subst e; rw[z2g] at k5; cases k5) p1
   ·cases h
  ·cases h
 ·rename_i ti r sz ix off v _ hti hx hy
  obtain⟨p,k',hρ,ex⟩:=(f7 hG hx (hs.sub (by simp)) hc).pix_inv
  have hdy:=f7 hG hy (hs.sub (by simp)) hc
  split at h
  ·rename_i e n cols xs hr hxs
   cases hk:(Nat.beq xs.length ti.size && a86 xs && Nat.beq sz cols.length && Nat.ble 1 xs.length)
   ·rw[hk] at h; cases h
   ·simp only[hk,z0f] at h
    simp only[z0d] at hk
    have hlen:=z0b hk.1.1.1
    have hszl:=z0b hk.1.2
    have hx1:=z1q hk.2
    split at h
    ·rename_i cols' hw
     simp only[z0a] at h
     subst h
     have hix:ix < n:=hp _ (by simp)
     have hr:=p9 hr
     obtain⟨w1,w2,w3⟩:=c1u hw
     have w2:=w2 (by omega)
     obtain⟨us,hu,hud⟩:=a4m hxs hdy
     obtain⟨A,c,vs,h1,h2,h3,h4,h5⟩:=hm.blk r _ hr (by rw[hρ]; simp)
     rw[hρ] at h1
     simp only[z0a,z0g] at h1
     obtain⟨rfl,rfl⟩:=h1
     obtain⟨i,hi,hsz,_,_⟩:=s4 (hT.types t ti hti)
     have hul:us.length=ti.size:=by rw[hud.1,hlen]
     obtain⟨hl0,h4'⟩:=h2
     rcases h4' with⟨h4',_⟩ | ⟨g,cap,cur,h4',_,hh,hnc,hcm,hcs,htk⟩
     ·cases h4'
     ·simp only[z0y,z0a,true_and] at h4'
      obtain⟨rfl,rfl⟩:=h4'
      have hfit:(ix + 1) * cols.length≤k' * cols.length:=z1w _ (by omega)
      rw[z3f] at hfit
      have hxu:xs.length=us.length:=by rw[hul,hlen]
      obtain⟨W',vs',r1,r2,r3,r4,r5,r6⟩:=a1d (P:=P) (ix * sz + off) us 0 W cur hh (by rw[hcs,hszl]; omega) (b2b hk.1.1.2 hud)
      have hrun:(execOp a.eval o).run P W=.ok .skip W':=by
       have e1:(Addr.add ⟨g,0,none⟩ (ix * sz + off))=⟨g,ix * sz + off,none⟩:=by rw[a5b]; simp
       simp only[execOp,ho,ex,Instr.storeAt,Instr.sureAddr,e1,z1a,z3g,z0o]
       have e2:(storeVar t ⟨g,ix * sz + off,none⟩ (a.eval y)).run P W=.ok () W':=by
        simp[storeVar,sizeOf,typeInfo,hi,hsz,hu,hul,r1]
       simp[e2]
      unfold OpTo
      rw[hrun]
      refine⟨ρ,fun r y _ h=>h,.v _,?_⟩
      simp only[t8,t4,z1f]
      have hnk:n * cols.length≤k' * cols.length:=z1w _ hnc
      have htake':(vs'.toList.take (n * cols'.length)).length=n * cols'.length:=by
       have h1:vs'.toList.length=k' * cols.length:=by simp[r3,hcs]
       rw[List.length_take,w1,h1]
       omega
      refine hm.keep hr rfl (by rw[hρ]; simp) r5 (fun g' e=>by injection e with e; exact⟨_,_,hρ,e⟩) ⟨_,k',vs'.toList.take (n * cols'.length),hρ,⟨htake',.inr ⟨g,k',vs',rfl,z2j _,r2,hnc,hcm,by rw[r3,hcs,w1],rfl⟩⟩,h3,by omega,fun j hj k col hcol=>?_⟩
      obtain⟨c0,hc0,hcc⟩:=w3 k col hcol
      have hkl:=(z0c.1 hc0).1
      obtain⟨u0,hu0,hd0⟩:=h5 j hj k c0 hc0
      have hjn:(j + 1) * cols.length≤n * cols.length:=z1w _ hj
      rw[z3f] at hjn
      have hin:j * cols.length + k < n * cols.length:=by omega
      have hS2:∀ g',ρ.S g'→W'.heap[g']?=W.heap[g']?:=fun g' hs=>r5.block g' (hm.hS g' hs) (fun e=>by injection e with e; subst e; exact h3 _ rfl hs)
      have hcur:cur[j * cols.length + k]?=some u0:=by
       rw[← htk,z1u,if_pos hin] at hu0
       simpa using hu0
      rw[w1,z1u,if_pos hin]
      have hr4:=r4 (j * cols.length + k)
      simp only[z1i,hszl] at hr4
      by_cases hji:j=ix
      ·subst hji
       by_cases hko:off≤k∧k < off + us.length
       ·rw[if_pos (by omega),show j * cols.length + k - (j * cols.length + off)=k - off by omega] at hr4
        rw[if_pos (by omega)] at hcc
        obtain⟨x,hx,hup⟩:=hcc
        obtain⟨u,hu,hdu⟩:=hud.get hx
        exact⟨u,by rw[hu] at hr4; simpa using hr4,c58 hup hdu⟩
       ·rw[if_neg (by omega),hcur] at hr4
        rw[if_neg (by omega)] at hcc
        subst hcc
        exact⟨u0,by simpa using hr4,s7 hd0 (fun _ h=>h) (fun g hg=>hS2 g hg.1)⟩
      ·have hnot:¬ (ix * cols.length + off≤j * cols.length + k∧j * cols.length + k < ix * cols.length + off + us.length):=by
        rcases Nat.lt_or_gt_of_ne hji with h | h
        ·have:=z1w cols.length h
         rw[z3f] at this
         omega
        ·have:=z1w cols.length h
         rw[z3f] at this
         omega
       rw[if_neg hnot,hcur] at hr4
       refine⟨u0,by simpa using hr4,?_⟩
       have hd0:=s7 (S':=ρ.R) (W':=W') hd0 (fun _ h=>h) (fun g hg=>hS2 g hg.1)
       by_cases hko:off≤k∧k < off + xs.length
       ·rw[if_pos hko] at hcc
        obtain⟨x,_,hup⟩:=hcc
        exact c1t hup hji hd0
       ·rw[if_neg hko] at hcc
        subst hcc
        exact hd0
    ·cases h
  ·cases h
 ·cases h
theorem b9l {q n:Nat} {kq:MBlk} {cols:List Col} {A:Option Addr} {c:Nat} (hb:BR ρ W q kq) (hs:a5o kq=some (n,cols)) (hρ:ρ q=some (A,c)) (h0:0 < n) :
  ∃ ad,A=some ad∧∀ j,j < n→∀ k col,cols[k]?=some col→∃ v,W.cell? (ad.add (j * cols.length + k))=some v∧j4 ρ.R W col j v:=by
 cases kq <;> simp only[a5o] at hs <;> first | cases hs | skip
 ·obtain⟨A',c',h1,_,h2⟩:=hb
  rw[hρ] at h1
  simp only[z0a,z0g] at h1
  obtain⟨rfl,rfl⟩:=h1
  obtain⟨a,ha,_,h3⟩:=h2 h0
  exact⟨a,ha,h3⟩
 ·obtain⟨A',c',vs,h1,h2,_,_,h3⟩:=hb
  rw[hρ] at h1
  simp only[z0a,z0g] at h1
  obtain⟨rfl,rfl⟩:=h1
  cases A with
  | none =>
   rcases h2.2 with⟨_,h0'⟩ | ⟨g,cap,cur,h,_⟩
   ·omega
   ·simp at h
  | some ad =>
   have hg:ad=⟨ad.block,0,none⟩:=by
    rcases h2.2 with⟨h,_⟩ | ⟨g,cap,cur,h,_⟩
    ·cases h
    ·simp only[z0y,z0a] at h
     rw[h.1]
   refine⟨ad,rfl,fun j hj k col hcol=>?_⟩
   obtain⟨u,hu,hd⟩:=h3 j hj k col hcol
   refine⟨u,?_,hd⟩
   rw[hg]
   exact h2.cells (g:=ad.block) rfl _ u hu
theorem b1f (lo:Nat) (c:List Col):(a3n lo c).length=c.length:=by
 induction c with
 | nil=>rfl
 | cons x r ih=>simp[a3n,ih]
theorem a95 (lo:Nat) (c:List Col) (k:Nat):(a3n lo c)[k]?=(c[k]?).map (a2b lo):=by
 induction c generalizing k with
 | nil=>simp[a3n]
 | cons x r ih=>cases k <;> simp[a3n,ih]
theorem b5a (lo:Nat) (gs:List (Nat→Nat→Int)) (k:Nat):(a2b.dropG lo gs)[k]?=(gs[k]?).map (fun g j=>g (lo + j)):=by
 induction gs generalizing k with
 | nil=>simp[a2b.dropG]
 | cons x r ih=>cases k <;> simp[a2b.dropG,ih]
theorem a97 (lo:Nat) (gs:List (Nat→Nat→Int)):(a2b.dropG lo gs).length=gs.length:=by
 induction gs with
 | nil=>rfl
 | cons x r ih=>simp[a2b.dropG,ih]
theorem b81 {S:Nat→Prop} {lo j:Nat} {c:Col} {v:Value} (h:j4 S W c (lo + j) v):j4 S W (a2b lo c) j v:=by
 cases c <;> simp only[a2b,j4] at h ⊢
 ·exact h
 ·exact h
 ·obtain⟨A,c,h1,h2,h3⟩:=h
  refine⟨A,c,h1,h2,fun h0=>?_⟩
  obtain⟨a,ha,hs,h4⟩:=h3 h0
  refine⟨a,ha,hs,fun i hi k g hg=>?_⟩
  rw[b5a,z0h] at hg
  obtain⟨g0,hg0,rfl⟩:=hg
  rw[a97]
  exact h4 i hi k g0 hg0
theorem b4g {l:List Col} (h:a2q l=true):∀ c∈l,a8x c=true:=by
 induction l with
 | nil=>intro c hc; cases hc
 | cons x r ih =>
  intro c hc
  simp only[a2q,z0d] at h
  rcases z0s.1 hc with rfl | hc
  ·exact h.1
  ·exact ih h.2 c hc
theorem c3q {S:Nat→Prop} {c:Col} {j:Nat} {v:Value} (h:j4 S W c j v) (hk:a8x c=true):v.oneCell'=true:=by
 cases c <;> simp only[j4,a8x] at h hk
 ·subst h; rfl
 ·subst h; rfl
 ·obtain⟨A,c,rfl,_⟩:=h; rfl
 ·cases hk
theorem c2s {q n lo k:Nat} {kq:MBlk} {cols:List Col} {A:Option Addr} {c:Nat} (hb:BR ρ W q kq) (hs:a5o kq=some (n,cols)) (hρ:ρ q=some (A,c)) (hc:0 < cols.length) (hkn:a2q cols=true) (hle:lo + k≤n) (h0:0 < k) :
  ∃(ad:Addr) (news:List Value),A=some ad∧news.length=k * cols.length∧(∀ j u,news[j]?=some u→W.cell? ((ad.add (lo * cols.length)).add j)=some u)∧(∀ u∈news,u.oneCell'=true) ∧
   ∀(j:Nat),j < k→∀(kk:Nat) (col:Col),(a3n lo cols)[kk]?=some col→∃ u,news[j * cols.length + kk]?=some u∧j4 ρ.R W col j u:=by
 obtain⟨ad,hA,hcell⟩:=b9l hb hs hρ (by omega)
 have at':∀ i,i < k * cols.length→∃ u col,cols[i % cols.length]?=some col∧W.cell? ((ad.add (lo * cols.length)).add i)=some u∧j4 ρ.R W col (lo + i / cols.length) u:=fun i hi=>by
  have hkk:i % cols.length < cols.length:=Nat.mod_lt _ hc
  have hj:i / cols.length < k:=Nat.div_lt_of_lt_mul (by rw[Nat.mul_comm]; exact hi)
  obtain⟨u,hu,hd⟩:=hcell (lo + i / cols.length) (by omega) (i % cols.length) _ (z0i hkk)
  refine⟨u,_,z0i hkk,?_,hd⟩
  rw[w6]
  rw[Nat.add_mul,z2v,Nat.mul_comm (i / cols.length),Nat.div_add_mod] at hu
  exact hu
 let news:=(List.range (k * cols.length)).map (fun i=>(W.cell? ((ad.add (lo * cols.length)).add i)).getD undef)
 have hget:∀ i u,i < k * cols.length→W.cell? ((ad.add (lo * cols.length)).add i)=some u→news[i]?=some u:=fun i u hi hu=>by
  simp only[news,z3o,List.getElem?_range hi,z2l,hu,Option.getD_some]
 refine⟨ad,news,hA,by simp[news],fun i u hu=>?_,fun u hu=>?_,fun j hj kk col hcol=>?_⟩
 ·have hi:i < k * cols.length:=by have:=(z0c.1 hu).1; simpa [news] using this
  obtain⟨u',_,_,hu',_⟩:=at' i hi
  rw[hget i u' hi hu'] at hu
  simp only[z0a] at hu
  rw[hu',hu]
 ·obtain⟨i,hi⟩:=z3m.1 hu
  have hil:i < k * cols.length:=by have:=(z0c.1 hi).1; simpa [news] using this
  obtain⟨u',col,hcol,hu',hd⟩:=at' i hil
  rw[hget i u' hil hu'] at hi
  simp only[z0a] at hi
  subst hi
  exact c3q hd (b4g hkn col (z2o hcol))
 ·rw[a95,z0h] at hcol
  obtain⟨c0,hc0,rfl⟩:=hcol
  have hkk:=(z0c.1 hc0).1
  obtain⟨u,hu,hd⟩:=hcell (lo + j) (by omega) kk c0 hc0
  have hlt:j * cols.length + kk < k * cols.length:=by
   have:(j + 1) * cols.length≤k * cols.length:=z1w _ hj
   rw[z3f] at this
   omega
  exact⟨u,hget _ u hlt (by rw[w6,← z2v,← Nat.add_mul]; exact hu),b81 hd⟩
theorem a8s {base t ty e:Nat} {i:TypeInfo} {z:Value} {size bytes:Nat} (ht:P.underlying t=some (.slice e)) (hi:P.info? e=some i) (hz:i.zero=some z)
  (hsize:i.size=size) (hby:i.bytes=bytes) {v:Value} {n:Nat} {xs:List Value} (hown:W.ownsRow base e size v n xs)
  {ad:Addr} {m c:Nat} {news:List Value} (hl:news.length=m * size) (hnews:∀ j u,news[j]?=some u→W.cell? (ad.add j)=some u) (h1:∀ u∈news,u.oneCell'=true) (h0:0 < m)
  (h63:n + m≤maxLen) (hbytes:(n + m) * bytes≤140737488355328) {v':Value} {w':World} (hrun:(Builtin.append_ #[t,t] ty #[v,.slice (some ad) m c]).run P W=.ok v' w') :
  v'.ownBlock=v.ownBlock∨v'.ownBlock=some W.heap.size:=by
 subst hsize
 subst hby
 have hsmall:n + m≤9223372036854775807:=by simp only[maxLen] at h63; omega
 rcases hown.2 with⟨rfl,rfl⟩ | ⟨g,cap,cur,rfl,hbg,hg,hnc,hcm,hcs,htake⟩
 ·have hr:=run_append_nil (P:=P) W t ty e i z ht hi hz ad m c news hl hnews h0 (by omega) (by have hb:=hbytes; simp only[z1d] at hb; omega)
  rw[hr] at hrun
  cases hrun
  exact .inr rfl
 ·by_cases hroom:n + m≤cap
  ·have hfit:n * i.size + news.length≤cur.size:=by rw[hl,hcs,← Nat.add_mul]; exact z1w _ hroom
   have hr:=run_append_room (P:=P) W t ty e i ht hi g n cap cur hg ad m c news hl hnews h1 hroom hfit
   rw[hr] at hrun
   cases hrun
   exact .inl rfl
  ·have holds:∀ j u,xs[j]?=some u→W.cell? ((⟨g,0,none⟩:Addr).add j)=some u:=hown.cells (g:=g) rfl
   have hr:=run_append_grow (P:=P) W t ty e i z ht hi hz ⟨g,0,none⟩ n cap xs hown.1 holds ad m c news hl hnews (by omega) (by omega) (growslice_fits (by omega) hbytes)
   rw[hr] at hrun
   cases hrun
   exact .inr rfl
theorem b37 (n:Nat):∀(c c':List Col),c.length=c'.length→(a1z n c c').length=c.length:=by
 intro c
 induction c with
 | nil=>intro c' _; cases c' <;> rfl
 | cons x r ih =>
  intro c' h
  cases c' with
  | nil=>simp at h
  | cons y r'=>simp only[a1z,z1g]; rw[ih r' (by simpa using h)]
theorem b11 (n:Nat):∀(c c':List Col) (k:Nat) (col:Col),c.length=c'.length→(a1z n c c')[k]?=some col→∃ x y,c[k]?=some x∧c'[k]?=some y∧col=a9u n x y:=by
 intro c
 induction c with
 | nil=>intro c' k col h; cases c' <;> simp[a1z]
 | cons x r ih =>
  intro c' k col h hk
  cases c' with
  | nil=>simp at h
  | cons y r' =>
   cases k with
   | zero=>simp[a1z] at hk; exact⟨x,y,rfl,rfl,hk.symm⟩
   | succ k=>simpa using ih r' k col (by simpa using h) (by simpa [a1z] using hk)
theorem b50 {n j:Nat} (hj:j < n):∀ {gs gs':List (Nat→Nat→Int)} (k:Nat) (g:Nat→Nat→Int),gs.length=gs'.length→(a6o n gs gs')[k]?=some g→∃ g0,gs[k]?=some g0∧g j=g0 j:=by
 have hb:Nat.blt j n=true:=by rw[z0u]; exact hj
 intro gs
 induction gs with
 | nil=>intro gs' k g h; cases gs' <;> simp[a6o]
 | cons x r ih =>
  intro gs' k g h hk
  cases gs' with
  | nil=>simp at h
  | cons y r' =>
   cases k with
   | zero=>simp[a6o] at hk; subst hk; exact⟨x,rfl,by simp[hb]⟩
   | succ k=>simpa using ih k g (by simpa using h) (by simpa [a6o] using hk)
theorem b2i {n j:Nat} (hj:n≤j):∀ {gs gs':List (Nat→Nat→Int)} (k:Nat) (g:Nat→Nat→Int),gs.length=gs'.length→(a6o n gs gs')[k]?=some g→∃ g0,gs'[k]?=some g0∧g j=g0 (j - n):=by
 have hb:Nat.blt j n=false:=z0z.2 fun h=>by rw[z0u] at h; omega
 intro gs
 induction gs with
 | nil=>intro gs' k g h; cases gs' <;> simp[a6o]
 | cons x r ih =>
  intro gs' k g h hk
  cases gs' with
  | nil=>simp at h
  | cons y r' =>
   cases k with
   | zero=>simp[a6o] at hk; subst hk; exact⟨y,rfl,by simp[hb]⟩
   | succ k=>simpa using ih k g (by simpa using h) (by simpa [a6o] using hk)
theorem a70 (n:Nat):∀ {gs gs':List (Nat→Nat→Int)},gs.length=gs'.length→(a6o n gs gs').length=gs.length:=by
 intro gs
 induction gs with
 | nil=>intro gs' h; cases gs' <;> rfl
 | cons x r ih =>
  intro gs' h
  cases gs' with
  | nil=>simp at h
  | cons y r'=>simp only[a6o,z1g]; rw[ih (by simpa using h)]
theorem b9c {S:Nat→Prop} {len len':Nat→Nat} {gs gs':List (Nat→Nat→Int)} {j j':Nat} {v:Value} (h:j4 S W (.rows len gs) j v) (hl:len' j'=len j) (hn:gs'.length=gs.length) (hg:∀(k:Nat) (g:Nat→Nat→Int),gs'[k]?=some g→∃ g0:Nat→Nat→Int,gs[k]?=some g0∧g j'=g0 j):j4 S W (.rows len' gs') j' v:=by
 obtain⟨A,c,h1,h2,h3⟩:=h
 refine⟨A,c,by rw[hl]; exact h1,by rw[hl]; exact h2,fun h0=>?_⟩
 rw[hl] at h0
 obtain⟨a,ha,hs,h4⟩:=h3 h0
 refine⟨a,ha,hs,fun i hi k g hk=>?_⟩
 obtain⟨g0,hg0,e⟩:=hg k g hk
 rw[hl] at hi
 rw[hn,e]
 exact h4 i hi k g0 hg0
theorem b0x {S:Nat→Prop} {n j:Nat} {x y:Col} {v:Value} (hj:j < n) (h:j4 S W x j v):j4 S W (a9u n x y) j v:=by
 have hb:Nat.blt j n=true:=by rw[z0u]; exact hj
 have hn:Nat.beq n 0=false:=z0z.2 fun h=>by have:=z0b h; omega
 cases x <;> cases y <;> simp only[a9u,hn,z0m] <;> try trivial
 ·rename_i k g k' g'
  cases hk:kEq k k'
  ·trivial
  ·simp only[j4,z0f,hb] at h ⊢; exact h
 ·simp only[j4,hb,z0f] at h ⊢; exact h
 ·rename_i len gs len' gs'
  cases hl:Nat.beq gs.length gs'.length
  ·trivial
  ·have hl:=z0b hl
   exact b9c h (by simp[hb]) (a70 n hl) fun k g hk=>b50 hj k g hl hk
theorem b6b {S:Nat→Prop} {n j:Nat} {x y:Col} {v:Value} (hj:n≤j) (h:j4 S W y (j - n) v):j4 S W (a9u n x y) j v:=by
 have hb:Nat.blt j n=false:=z0z.2 fun h=>by rw[z0u] at h; omega
 have any:∀ {c:Col},j4 S W c (j - n) v→j4 S W (bif Nat.beq n 0 then c else .any) j v:=fun {c} h=>by
  cases hn:Nat.beq n 0
  ·trivial
  ·have:=z0b hn
   subst this
   exact h
 cases x <;> cases y <;> simp only[a9u] <;> try trivial
 ·rename_i k g k' g'
  cases hk:kEq k k'
  ·trivial
  ·obtain rfl:=u4.1 hk
   simp only[j4,z0f,hb,z0m] at h ⊢; exact h
 ·simp only[j4,hb,z0m] at h ⊢; exact h
 ·rename_i len gs len' gs'
  cases hl:Nat.beq gs.length gs'.length
  ·trivial
  ·have hl:=z0b hl
   exact b9c h (by simp[hb]) (by rw[a70 n hl,hl]) fun k g hk=>b2i hj k g hl hk
 all_goals exact any h
theorem b1m {t ty e size n c:Nat} {i:TypeInfo} (ht:P.underlying t=some (.slice e)) (hi:P.info? e=some i) {v:Value} {xs:List Value} {A:Option Addr} (hown:W.ownsRow 0 e size v n xs) :
  (Builtin.append_ #[t,t] ty #[v,.slice A 0 c]).run P W=.ok v W:=by
 have hf:(Builtin.firstCells i.size 0 (.slice A 0 c)).run P W=.ok #[] W:=by
  cases A with
  | none=>simp[Builtin.firstCells]
  | some ad =>
   have:=run_loadCells_list (P:=P) W ad [] (fun j u hu=>by simp at hu)
   simpa [Builtin.firstCells] using this
 rcases hown.2 with⟨rfl,rfl⟩ | ⟨g,cap,cur,rfl,_,hg,hnc,hcm,hcs,htake⟩
 ·simp[Builtin.append_,run_underlying ht,sizeOf,typeInfo,hi,Builtin.lenOf,hf]
 ·simp[Builtin.append_,run_underlying ht,sizeOf,typeInfo,hi,Builtin.lenOf,hf,hnc,storeCells]
theorem b0w {cl:Call} {x y:Operand} {t r n k:Nat} {ti te:TI} {cols cols2:List Col} {Ay:Option Addr} {cy:Nat} {pre:List Prop} (hT:TabOk P T) (hm:MR K w0 W ρ m) (ho:o.op=.call cl) (hcal:cl.callee=.builtin .append) (hargs:cl.args.toList=[x,y]) (htys:cl.argTypes.toList=[t,t])
  (hti:g7 T.types t=some ti) (hte:g7 T.types ti.elem=some te) (k2:ti.kind=3) (hr:m[r]?=some (.oarr ti.elem n cols)) (hdx:Den ρ (.sl r n) (a.eval x)) (ey:a.eval y=.slice Ay k cy)
  (k4:cols.length=te.size) (k5:cols2.length=te.size) (k6:te.zero.length=te.size) (k7:0 < te.size) (p4:(n + k) * te.bytes≤140737488355328) (p5:n + k≤9223372036854775807)
  (hsrc:0 < k→∃(ad:Addr) (news:List Value),Ay=some ad∧news.length=k * te.size∧(∀ j u,news[j]?=some u→W.cell? (ad.add j)=some u)∧(∀ u∈news,u.oneCell'=true) ∧
   ∀(j:Nat),j < k→∀(kk:Nat) (col:Col),cols2[kk]?=some col→∃ u,news[j * te.size + kk]?=some u∧j4 ρ.R W col j u) :
  OpTo P a o W (a2y K w0 ρ m ⟨pre,.sl r (n + k),[r],[(r,.oarr ti.elem (n + k) (a1z n cols cols2))],[]⟩):=by
 obtain⟨A,c0,hρ,ex,hnx⟩:=hdx.sl_inv
 obtain⟨A',c',vs,h1,h2,h2',h3,h4⟩:=hm.blk r _ hr (by rw[hρ]; simp)
 rw[hρ] at h1
 simp only[z0a,z0g] at h1
 obtain⟨rfl,rfl⟩:=h1
 obtain⟨ht1,ht2⟩:=q6 (hT.types t ti hti) k2
 obtain⟨i,hi,hisz,hiby,hiz⟩:=s4 (hT.types _ te hte)
 have hcl:(a1z n cols cols2).length=te.size:=by rw[b37 n cols cols2 (by omega)]; omega
 rw[k4] at h2 h4
 have hvl:vs.length=n * te.size:=h2.1
 have ha:cl.args = #[x,y]:=by rw[← Array.toArray_toList (xs:=cl.args),hargs]
 have hty:cl.argTypes = #[t,t]:=by rw[← Array.toArray_toList (xs:=cl.argTypes),htys]
 have hexec:∀ {v':Value} {W':World},(Builtin.append_ #[t,t] o.type #[.slice A n c0,.slice Ay k cy]).run P W=.ok v' W'→(execOp a.eval o).run P W=.ok (.value v') W':=fun {v' W'} hrun=>by
  simp only[execOp,ho,resolve,hcal,ha,hty,invoke,builtin,z1a,z3g,z0o,List.map_toArray,z2b,List.map_nil,ex,ey,hrun]
 have hnn:ρ r≠none:=by rw[hρ]; simp
 by_cases hk0:k=0
 ·subst hk0
  have hrun:=b1m (P:=P) (ty:=o.type) (c:=cy) (A:=Ay) ht1 hi h2
  have hold:(ρ.with r (A,c0))=ρ:=by
   cases ρ
   simp only[Env.with]
   congr 1
   funext s
   by_cases e:s=r
   ·subst e; simp only[if_true]; exact hρ.symm
   ·simp only[if_neg e]
  have hcols:∀ j,j < n→∀ kk col,(a1z n cols cols2)[kk]?=some col→∃ u,vs[j * te.size + kk]?=some u∧j4 ρ.R W col j u:=fun j hj kk col hcol=>by
   obtain⟨cx,cy,e1,e2,rfl⟩:=b11 n cols cols2 kk col (by omega) hcol
   obtain⟨u,hu,hdu⟩:=h4 j hj kk cx e1
   exact⟨u,hu,b0x hj hdu⟩
  refine OpTo.value (hexec hrun) ⟨ρ,fun _ _ _ h=>h,.sl hρ (fun h=>hnx (by omega)),?_⟩
  simp only[t4,z1f]
  have:=hm.turn (row:=none) (k':=.oarr ti.elem (n + 0) (a1z n cols cols2)) (x:=(A,c0)) hr rfl hnn (World.grownBy.refl W none) (fun g e=>by cases e) (fun b hb=>.inl ⟨b,c0,by rw[hρ,← hb],rfl⟩)
   ⟨A,c0,vs,Env.with_same _ _ _,by rw[hcl]; exact h2,h2',by omega,by rw[hcl]; exact hcols⟩
  rw[hold] at this
  exact this
 ·obtain⟨ad,news,rfl,hnl,hnews,hone,hncol⟩:=hsrc (Nat.pos_of_ne_zero hk0)
  obtain⟨z,hz,hzd⟩:=hiz (fun e=>by rw[e] at k6; simp at k6; omega)
  have hzs:z.cells.size=te.size:=by have:=(hzd ρ).1; rw[k6] at this; simpa using this
  have hml:n + k≤maxLen:=by simp only[maxLen]; omega
  obtain⟨v',W',hrun,g1,g2,g3⟩:=run_append_own (P:=P) W 0 t o.type ti.elem i z te.size te.bytes ht1 hi hz hisz hiby hzs k7 (.slice A n c0) n vs h2 ad k cy news hnl hnews hone hml p4 (z2j _)
  have hwhere:=a8s (P:=P) ht1 hi hz hisz hiby h2 hnl hnews hone (Nat.pos_of_ne_zero hk0) hml p4 hrun
  obtain⟨gn,capn,hv'⟩:∃ g cap,v'=.slice (some ⟨g,0,none⟩) (n + k) cap:=by
   rcases g1.2 with⟨_,h0⟩ | ⟨g,cap,cur,e1,e2,e3,_⟩
   ·exact(hk0 (Nat.add_eq_zero_iff.1 h0).2).elim
   ·exact⟨g,cap,e1⟩
  subst hv'
  have hrow:∀ g,(Value.slice A n c0).ownBlock=some g→∃ a c,ρ r=some (some a,c)∧a.block=g:=fun g e=>by
   cases A with
   | none=>simp[Value.ownBlock] at e
   | some aa=>simp[Value.ownBlock] at e; exact⟨aa,c0,hρ,e⟩
  have hx:(∃ b c,ρ r=some (some b,c)∧b.block=gn)∨W.heap.size≤gn:=by
   rcases hwhere with hw | hw
   ·exact .inl (hrow gn (by rw[← hw]; rfl))
   ·simp[Value.ownBlock] at hw
    exact .inr (by omega)
  have hnoS:¬ ρ.S gn:=fun hs=>by
   rcases hx with⟨b,c,hb,e⟩ | hge
   ·rw[hρ] at hb
    simp only[z0a,z0g] at hb
    exact h2' b hb.1 (by rw[e]; exact hs)
   ·have:=hm.hS gn hs
    omega
  have hnoRow:∀ g,(Value.slice A n c0).ownBlock=some g→¬ ρ.S g:=fun g e=>by
   obtain⟨b,c,hb,e'⟩:=hrow g e
   rw[hρ] at hb
   simp only[z0a,z0g] at hb
   rw[← e']
   exact h2' b hb.1
  have hS2:∀ g',ρ.S g'→W'.heap[g']?=W.heap[g']?:=fun g' hs=>g2.block g' (hm.hS g' hs) (fun e=>hnoRow g' e.symm hs)
  refine OpTo.value (hexec hrun) ⟨ρ.with r (some ⟨gn,0,none⟩,capn),fun s y hs hy=>by rw[Env.with_ne _ _ (by simpa using hs)]; exact hy,.sl (Env.with_same _ _ _) (fun _=>by simp),?_⟩
  simp only[t4,z1f]
  refine hm.turn hr rfl hnn g2 hrow (fun b hb=>by simp only[z0a] at hb; subst hb; exact hx) ⟨_,capn,vs ++ news,Env.with_same _ _ _,by rw[hcl]; exact g1,fun b hb=>by simp only[z0a] at hb; subst hb; exact hnoS,by omega,fun j hj kk col hcol=>?_⟩
  obtain⟨cx,cy',e1,e2,rfl⟩:=b11 n cols cols2 kk col (by omega) hcol
  rw[hcl]
  have hkk:=(z0c.1 e1).1
  by_cases hjn:j < n
  ·obtain⟨u,hu,hdu⟩:=h4 j hjn kk cx e1
   have hlt:=(z0c.1 hu).1
   exact⟨u,by rw[z0t hlt]; exact hu,b0x hjn (s7 hdu (fun _ h=>h) (fun g hg=>hS2 g hg.1))⟩
  ·obtain⟨u,hu,hdu⟩:=hncol (j - n) (by omega) kk cy' e2
   refine⟨u,?_,b6b (by omega) (s7 hdu (fun _ h=>h) (fun g hg=>hS2 g hg.1))⟩
   have e3:j * te.size + kk=vs.length + ((j - n) * te.size + kk):=by
    rw[hvl,Nat.sub_mul]
    have:=z1w te.size (by omega:n≤j)
    omega
   rw[e3,z1c (by omega),Nat.add_sub_cancel_left]
   exact hu
theorem b4h (c:List Col):∀(k:Nat) (col:Col) (S:Nat→Prop) (W:World) (j:Nat) (v:Value),c[k]?=some col→j4 S W (a2b 0 col) j v→j4 S W col j v:=fun k col S W j v _ h=>by
 cases col <;> simp only[a2b,j4,z1d] at h ⊢
 ·exact h
 ·exact h
 ·obtain⟨A,c,h1,h2,h3⟩:=h
  refine⟨A,c,h1,h2,fun h0=>?_⟩
  obtain⟨a,ha,hs,h4⟩:=h3 h0
  refine⟨a,ha,hs,fun i hi k g hg=>?_⟩
  have:=h4 i hi k (fun j=>g (0 + j)) (by rw[b5a,hg]; rfl)
  rw[a97] at this
  simpa using this
theorem c7s {cl:Call} {x:Operand} {t r lo n n' e:Nat} {ti te:TI} {g:Nat→Int} (hT:TabOk P T) (hG:GlobOk T ρ) (hm:MR K w0 W ρ m) (ho:o.op=.call cl) (hcal:cl.callee=.builtin .clear) (hargs:cl.args.toList=[x]) (htys:cl.argTypes.toList=[t]) (hs:OpsOk ρ sl a [x]) (hx:q7 T sl [] x=some (.sub r 1 lo n))
  (hti:g7 T.types t=some ti) (h3:ti.kind=3) (hte:g7 T.types ti.elem=some te) (hk:te.kind=0) (hik:te.ik=some .i64) (hr:m[r]?=some (.oarr e n' [.int .i64 g])) (hn:lo + n=n') :
  OpTo P a o W (a2y K w0 ρ m ⟨[lo + n=n'],.tup [],[],[(r,.oarr e n' [.int .i64 (fun j=>bif Nat.blt j lo then g j else 0)])],[]⟩):=by
 have hc:sat a []:=fun q w hq=>by cases hq
 obtain⟨A,c0,A',c',hρ,ex,hne⟩:=(f7 hG hx hs hc).sub_inv
 obtain⟨A1,c1,vs,h1,h2,h3',h4,h5⟩:=hm.blk r _ hr (by rw[hρ]; simp)
 rw[hρ] at h1
 simp only[z0a,z0g] at h1
 obtain⟨rfl,rfl⟩:=h1
 have hu:=(q6 (hT.types t ti hti) h3).1
 have hz:=a6w (hT.ints _ te hte) hik W
 have hsk:Den ρ (.tup []) (.tuple #[]):=.tup (vs:=[]) rfl (fun j y u hy=>by simp at hy)
 have hcall:∀ W',(Builtin.clear_ #[t] o.type #[a.eval x]).run P W=.ok (.tuple #[]) W'→(execOp a.eval o).run P W=.ok (.value (.tuple #[])) W':=fun W' h=>by
  have e1:cl.args.map a.eval = #[a.eval x]:=by
   have:cl.args.toList.map a.eval=[a.eval x]:=by rw[hargs]; rfl
   apply Array.ext'; simpa using this
  have e2:cl.argTypes = #[t]:=by apply Array.ext'; simpa using htys
  simp only[execOp,ho,resolve,hcal,z1a,z3g,z0o,invoke]
  rw[e1,e2]
  simp[builtin,h]
 by_cases h0:n=0
 ·subst h0
  have hrun:(Builtin.clear_ #[t] o.type #[a.eval x]).run P W=.ok (.tuple #[]) W:=by
   rw[ex]
   cases A' <;> simp[Builtin.clear_,run_underlying hu]
  refine OpTo.value (hcall W hrun) ⟨ρ,fun r y _ h=>h,hsk,?_⟩
  simp only[t8,t4,z1f]
  refine hm.keep (row:=none) hr rfl (by rw[hρ]; simp) ⟨rfl,rfl,rfl,z0q _,fun _ _ _=>rfl⟩ (fun g e=>by cases e) ?_
  refine⟨A,c0,vs,hρ,h2,h3',h4,fun j hj k col hcol=>?_⟩
  have hk0:k=0:=by have:=(z0c.1 hcol).1; simpa using this
  subst hk0
  simp at hcol
  subst hcol
  obtain⟨v,hv,hd⟩:=h5 j hj 0 _ rfl
  refine⟨v,hv,?_⟩
  simp only[j4] at hd ⊢
  have:Nat.blt j lo=true:=by rw[z0u]; omega
  rw[this,z0f]; exact hd
 ·obtain⟨hA,hA'⟩:=hne (by omega)
  obtain⟨hl0,h4'⟩:=h2
  rcases h4' with⟨h4',_⟩ | ⟨gb,cap,cur,h4',_,hh,hnc,hcm,hcs,htk⟩
  ·simp only[z0y] at h4'; exact absurd h4'.1 hA
  ·simp only[z0y,true_and] at h4'
   obtain⟨rfl,rfl⟩:=h4'
   simp only[z2i,Nat.mul_one] at hl0 hcs htk h4
   obtain⟨W',vs',r1,r2,r3,r4,r5,r6⟩:=a1d (P:=P) lo (List.replicate n (Value.int .i64 0)) 0 W cur hh (by simp; omega) (fun u hu=>by rw[List.mem_replicate] at hu; rw[hu.2]; rfl)
   have hzc:(Builtin.zeroCells (Value.int .i64 0).cells n).toList=List.replicate n (Value.int .i64 0):=by
    apply List.ext_getElem
    ·simp[Builtin.zeroCells,Value.cells]
    ·intro i h1 h2
     simp[Builtin.zeroCells,Value.cells,Nat.mod_one]
   have hrun:(Builtin.clear_ #[t] o.type #[a.eval x]).run P W=.ok (.tuple #[]) W':=by
    have e1:(Addr.add ⟨gb,0,none⟩ (lo * 1))=⟨gb,lo,none⟩:=by rw[a5b]; simp
    rw[ex,hA']
    simp only[z2l,e1]
    cases n with
    | zero=>exact absurd rfl h0
    | succ n=>simp[Builtin.clear_,run_underlying hu,hz,a5f,hzc,r1]
   refine OpTo.value (hcall W' hrun) ⟨ρ,fun r y _ h=>h,hsk,?_⟩
   simp only[t8,t4,z1f]
   refine hm.keep hr rfl (by rw[hρ]; simp) r5 (fun g' e=>by injection e with e; exact⟨_,_,hρ,e⟩) ⟨_,c0,vs'.toList.take n',hρ,⟨by simp; omega,.inr ⟨gb,c0,vs',rfl,z2j _,r2,hnc,hcm,by rw[r3,hcs]; simp,by simp⟩⟩,h3',by simp,fun j hj k col hcol=>?_⟩
   have hk0:k=0:=by have:=(z0c.1 hcol).1; simpa using this
   subst hk0
   simp at hcol
   subst hcol
   obtain⟨v,hv,hd⟩:=h5 j hj 0 _ rfl
   simp only[z2i,Nat.mul_one,z1i,j4] at hv hd ⊢
   have hcur:cur[j]?=some v:=by
    rw[← htk,z1u,if_pos hj] at hv
    simpa using hv
   have hr4:=r4 j
   simp only[z1i,List.length_replicate] at hr4
   rw[z1u,if_pos hj]
   by_cases hjl:lo≤j
   ·rw[if_pos (by omega),List.getElem?_replicate,if_pos (by omega)] at hr4
    have:Nat.blt j lo=false:=by cases hb:Nat.blt j lo; rfl; rw[z0u] at hb; omega
    exact⟨_,by simpa using hr4,by rw[this]; rfl⟩
   ·rw[if_neg (by omega),hcur] at hr4
    have:Nat.blt j lo=true:=by rw[z0u]; omega
    exact⟨v,by simpa using hr4,by rw[this]; exact hd⟩
theorem MR.putBack {r q ix e e' n k:Nat} {len:Nat→Nat} {gs gs':List (Nat→Nat→Int)} {cols:List Col} (hm:MR K w0 W ρ m) (hr:m[r]?=some (.orows e e' n (some ix) (some q) len gs)) (hq:m[q]?=some (.oarr e' k cols)) (hlen:gs.length=cols.length) (hk:len ix=k)
  (hl':gs'.length=gs.length) (hg':∀(kk:Nat) (g':Nat→Nat→Int),gs'[kk]?=some g'→(∀ j,j≠ix→∃ g,gs[kk]?=some g∧g' j=g j)∧(0 < k→cols[kk]?=some (.int .i64 (g' ix)))) :
  ∃ σ:Env,σ.f=ρ.f∧MR K w0 W σ (i4 (i4 m r (.orows e e' n none none len gs')) q .gone):=by
 have hrm:=(z0c.1 hr).1
 have hqm:=(z0c.1 hq).1
 have hne:r≠q:=fun e=>by subst e; rw[hq] at hr; cases hr
 have mget:∀(s:Nat) (l:MBlk),(i4 (i4 m r (.orows e e' n none none len gs')) q .gone)[s]?=some l→(s=q∧l=.gone)∨(s=r∧l=.orows e e' n none none len gs')∨(s≠q∧s≠r∧m[s]?=some l):=fun s l hl=>by
  rw[j7,d8,j7] at hl
  by_cases e1:s=q
  ·subst e1
   rw[if_pos ⟨rfl,hqm⟩] at hl
   exact .inl ⟨rfl,by simpa using hl.symm⟩
  ·rw[if_neg (by omega)] at hl
   by_cases e2:s=r
   ·subst e2
    rw[if_pos ⟨rfl,hrm⟩] at hl
    exact .inr (.inl ⟨rfl,by simpa using hl.symm⟩)
   ·rw[if_neg (by omega)] at hl
    exact .inr (.inr ⟨e1,e2,hl⟩)
 have mown:∀(s:Nat) (l:MBlk),(i4 (i4 m r (.orows e e' n none none len gs')) q .gone)[s]?=some l→l7 l=true→s≠q∧∃ l0,m[s]?=some l0∧l7 l0=true:=fun s l hl ho=>by
  rcases mget s l hl with⟨_,rfl⟩ | ⟨rfl,rfl⟩ | ⟨e1,_,hl⟩
  ·simp[l7] at ho
  ·exact⟨hne,_,hr,rfl⟩
  ·exact⟨e1,l,hl,ho⟩
 have hlth:(i4 (i4 m r (.orows e e' n none none len gs')) q MBlk.gone).length=m.length:=by rw[d8,d8]
 by_cases hρr:ρ r=none
 ·refine⟨ρ,rfl,hm.sub,hm.rows,hm.hS,hm.below,fun s l hl hs'=>?_,fun s hs'=>by rw[hlth]; exact hm.dom s hs',fun s g hx=>by rw[hlth]; exact hm.xlt s g hx,hm.xsep,fun s g s2 l a c hx hl ho hs2=>?_,fun s1 s2 k1 k2 a1 a2 c1 c2 hk1 hk2 ho1 ho2 hr1 hr2 hb=>?_⟩
  ·rcases mget s l hl with⟨_,rfl⟩ | ⟨rfl,_⟩ | ⟨_,_,h⟩
   ·trivial
   ·exact absurd hρr hs'
   ·exact hm.blk s l h hs'
  ·obtain⟨_,l0,hl0,p0⟩:=mown s2 l hl ho
   exact hm.xown s g s2 l0 a c hx hl0 p0 hs2
  ·obtain⟨_,l1,hl1,p1⟩:=mown s1 k1 hk1 ho1
   obtain⟨_,l2,hl2,p2⟩:=mown s2 k2 hk2 ho2
   exact hm.sep s1 s2 l1 l2 a1 a2 c1 c2 hl1 hl2 p1 p2 hr1 hr2 hb
 obtain⟨A0,c0,vs,hρ,h2,h3,h4,h5,h6,h7⟩:=hm.blk r _ hr hρr
 obtain⟨A,c,hρq,hvix,_⟩:=h7 ix q rfl rfl
 obtain⟨A1,c1,us,b1,b2,b3,b4,b5⟩:=hm.blk q _ hq (by rw[hρq]; simp)
 rw[hρq] at b1
 simp only[z0a,z0g] at b1
 obtain⟨rfl,rfl⟩:=b1
 subst hk
 let σ:Env:=⟨ρ.f,ρ.S,ρ.T,fun s b=>ρ.X s b∨(s=r∧∃ ad,A=some ad∧ad.block=b)⟩
 have hownq:∀ ad,A=some ad→¬ ρ.S ad.block∧ad.block < W.heap.size:=fun ad ha=>t9 (hm.blk q _ hq (by rw[hρq]; simp)) rfl (by rw[hρq,ha])
 refine⟨σ,rfl,hm.sub,hm.rows,hm.hS,hm.below,fun s l hl hs'=>?_,fun s hs'=>by rw[hlth]; exact hm.dom s hs',fun s b hx=>?_,fun s1 s2 b hx1 hx2=>?_,fun s b s2 l ad cc hx hl ho2 hs2=>?_,?_⟩
 ·rcases mget s l hl with⟨_,rfl⟩ | ⟨rfl,rfl⟩ | ⟨e1,e2,hl⟩
  ·trivial
  ·refine⟨A0,c0,vs,hρ,h2,h3,by omega,fun j hj _=>?_,fun j j' B l d B' l' d' hj hj' _ _ hv hv' hb=>?_,fun j q hj _=>(by cases hj)⟩
   ·by_cases ej:j=ix
    ·subst ej
     refine⟨A,c,us,hvix,by rw[hl',hlen]; exact b2,fun b hb=>.inr ⟨rfl,b,hb,rfl⟩,fun i hi k2 g' hgk=>?_⟩
     obtain⟨v,hv,hd⟩:=b5 i hi k2 _ ((hg' k2 g' hgk).2 (by omega))
     simp only[j4] at hd
     subst hd
     rw[hl',hlen]
     exact hv
    ·obtain⟨B,d,us',f1,f2,f3,f4⟩:=h5 j hj (fun e2=>ej (by simpa using e2.symm))
     refine⟨B,d,us',f1,by rw[hl']; exact f2,fun b hb=>.inl (f3 b hb),fun i hi k2 g' hgk=>?_⟩
     obtain⟨g,hg,eg⟩:=(hg' k2 g' hgk).1 j ej
     rw[hl',eg]
     exact f4 i hi k2 g hg
   ·have mix:∀ {j2:Nat} {B2:Addr} {l2 d2:Nat} {Bq:Addr},j2 < n→j2≠ix→vs[j2]?=some (.slice (some B2) l2 d2)→A=some Bq→Bq.block=B2.block→False:=fun {j2 B2 l2 d2 Bq} hj2 ej hv2 hA hbl=>by
     obtain⟨B,d,us',f1,_,f3,_⟩:=h5 j2 hj2 (fun e2=>ej (by simpa using e2.symm))
     rw[f1] at hv2
     simp only[z0a,z0y] at hv2
     exact hm.xown _ _ q _ Bq c (f3 B2 hv2.1) hq rfl (by rw[hρq,hA]) hbl
    by_cases ej:j=ix <;> by_cases ej':j'=ix
    ·rw[ej,ej']
    ·rw[ej,hvix] at hv
     simp only[z0a,z0y] at hv
     exact(mix hj' ej' hv' hv.1 hb).elim
    ·rw[ej',hvix] at hv'
     simp only[z0a,z0y] at hv'
     exact(mix hj ej hv hv'.1 hb.symm).elim
    ·exact h6 j j' B l d B' l' d' hj hj' (fun e2=>ej (by simpa using e2.symm)) (fun e2=>ej' (by simpa using e2.symm)) hv hv' hb
  ·have h0:=hm.blk s l hl hs'
   exact h0.mono (fun _ _ h=>h) (fun _ h=>h) (fun _ h=>h) (fun ad cc ho ha=>(t9 h0 ho ha).1) (fun b hb=>.inl hb)
 ·rw[hlth]
  rcases hx with hx | ⟨rfl,ad,ha,rfl⟩
  ·exact hm.xlt s b hx
  ·exact⟨hrm,hownq ad ha⟩
 ·have no:∀ s ad,ρ.X s b→A=some ad→ad.block=b→False:=fun s ad hx ha e=>hm.xown s b q _ ad c hx hq rfl (by rw[hρq,ha]) e
  rcases hx1 with hx1 | ⟨rfl,ad,ha,e⟩ <;> rcases hx2 with hx2 | ⟨rfl,ad',ha',e'⟩
  ·exact hm.xsep s1 s2 b hx1 hx2
  ·exact(no _ _ hx1 ha' e').elim
  ·exact(no _ _ hx2 ha e).elim
  ·rfl
 ·obtain⟨sq,l0,hl0,ho0⟩:=mown s2 l hl ho2
  rcases hx with hx | ⟨rfl,ad',ha,rfl⟩
  ·exact hm.xown s b s2 l0 ad cc hx hl0 ho0 hs2
  ·intro e
   exact sq (hm.sep s2 q l0 _ ad ad' cc c hl0 hq ho0 rfl hs2 (by rw[hρq,ha]) e)
 ·intro s1 s2 k1 k2 a1 a2 c1 c2 hk1 hk2 ho1 ho2 hr1 hr2 hb
  obtain⟨_,l1,hl1,p1⟩:=mown s1 k1 hk1 ho1
  obtain⟨_,l2,hl2,p2⟩:=mown s2 k2 hk2 ho2
  exact hm.sep s1 s2 l1 l2 a1 a2 c1 c2 hl1 hl2 p1 p2 hr1 hr2 hb
def d3b (ρ:Env) (r q:Nat):Env:=⟨ρ.f,ρ.S,ρ.T,fun s g=>(ρ.X s g∧s≠q)∨(s=r∧ρ.X q g)⟩
theorem MR.absorb {r q:Nat} {kr kq:MBlk} (hm:MR K w0 W ρ m) (hr:m[r]?=some kr) (hq:m[q]?=some kq) (hne:r≠q):MR K w0 W (d3b ρ r q) (i4 m q .gone):=by
 have hrm:=(z0c.1 hr).1
 have hqm:=(z0c.1 hq).1
 have mget:∀(s:Nat) (l:MBlk),(i4 m q .gone)[s]?=some l→(s=q∧l=.gone)∨(s≠q∧m[s]?=some l):=fun s l hl=>by
  rw[j7] at hl
  by_cases e:s=q
  ·subst e
   rw[if_pos ⟨rfl,hqm⟩] at hl
   exact .inl ⟨rfl,by simpa using hl.symm⟩
  ·rw[if_neg (by omega)] at hl
   exact .inr ⟨e,hl⟩
 have mown:∀(s:Nat) (l:MBlk),(i4 m q .gone)[s]?=some l→l7 l=true→s≠q∧m[s]?=some l:=fun s l hl ho=>by
  rcases mget s l hl with⟨_,rfl⟩ | h
  ·simp[l7] at ho
  ·exact h
 have src:∀ {s g:Nat},(d3b ρ r q).X s g→∃ s0,ρ.X s0 g∧((s0=s∧s≠q)∨(s0=q∧s=r)):=fun {s g} hx=>by
  rcases hx with⟨hx,hs⟩ | ⟨rfl,hx⟩
  ·exact⟨s,hx,.inl ⟨rfl,hs⟩⟩
  ·exact⟨q,hx,.inr ⟨rfl,rfl⟩⟩
 refine⟨hm.sub,hm.rows,hm.hS,hm.below,fun s l hl hs'=>?_,fun s hs'=>by rw[d8]; exact hm.dom s hs',fun s g hx=>?_,fun s1 s2 g hx1 hx2=>?_,fun s g s2 l a c hx hl ho hs2=>?_,fun s1 s2 k1 k2 a1 a2 c1 c2 hk1 hk2 ho1 ho2 hr1 hr2 hb=>hm.sep s1 s2 k1 k2 a1 a2 c1 c2 (mown s1 k1 hk1 ho1).2 (mown s2 k2 hk2 ho2).2 ho1 ho2 hr1 hr2 hb⟩
 ·rcases mget s l hl with⟨_,rfl⟩ | ⟨e,hl⟩
  ·trivial
  ·have h0:=hm.blk s l hl hs'
   exact h0.mono (fun _ _ h=>h) (fun _ h=>h) (fun _ h=>h) (fun ad cc ho ha=>(t9 h0 ho ha).1) (fun b hb=>.inl ⟨hb,e⟩)
 ·rw[d8]
  obtain⟨s0,h0,h⟩:=src hx
  obtain⟨x1,x2⟩:=hm.xlt s0 g h0
  rcases h with⟨rfl,_⟩ | ⟨_,rfl⟩
  ·exact⟨x1,x2⟩
  ·exact⟨hrm,x2⟩
 ·obtain⟨t1,g1,e1⟩:=src hx1
  obtain⟨t2,g2,e2⟩:=src hx2
  have:=hm.xsep t1 t2 g g1 g2
  omega
 ·obtain⟨s0,h0,_⟩:=src hx
  exact hm.xown s0 g s2 l a c h0 (mown s2 l hl ho).2 ho hs2
theorem MR.frz {q e e' n:Nat} {lk:Option Nat} {len:Nat→Nat} {gs:List (Nat→Nat→Int)} (hm:MR K w0 W ρ m) (hq:m[q]?=some (.orows e e' n none lk len gs)) :
  ∃ σ:Env,(∀ s y,ρ s=some y→σ s=some y)∧MR K w0 W σ (i4 m q (.arr n [.rows len gs])):=by
 have hqm:q < m.length:=(z0c.1 hq).1
 have mget:∀(s:Nat) (l:MBlk),(i4 m q (.arr n [.rows len gs]))[s]?=some l→(s=q∧l=.arr n [.rows len gs])∨(s≠q∧m[s]?=some l):=fun s l hl=>by
  rw[j7] at hl
  by_cases e:s=q
  ·subst e
   rw[if_pos ⟨rfl,hqm⟩] at hl
   exact .inl ⟨rfl,by simpa using hl.symm⟩
  ·rw[if_neg (by omega)] at hl
   exact .inr ⟨e,hl⟩
 have mown:∀(s:Nat) (l:MBlk),(i4 m q (.arr n [.rows len gs]))[s]?=some l→l7 l=true→s≠q∧m[s]?=some l:=fun s l hl ho=>by
  rcases mget s l hl with⟨_,rfl⟩ | h
  ·simp[l7] at ho
  ·exact h
 let F:Nat→Prop:=fun g=>ρ.X q g∨∃ a c,ρ q=some (some a,c)∧a.block=g
 have hF:∀ g,F g→¬ ρ.S g∧g < W.heap.size:=fun g hg=>by
  rcases hg with hx | ⟨a,c,ha,rfl⟩
  ·exact(hm.xlt q g hx).2
  ·exact t9 (hm.blk q _ hq (by rw[ha]; simp)) rfl ha
 refine⟨⟨ρ.f,fun g=>ρ.S g∨F g,fun g=>ρ.T g∨ρ.X q g,fun s g=>ρ.X s g∧s≠q⟩,fun _ _ h=>h,fun g hg=>.inl (hm.sub g hg),fun g hg=>?_,fun g hg=>?_,hm.below,fun s l hl hs'=>?_,fun s hs'=>by rw[d8]; exact hm.dom s hs',fun s g hx=>?_,fun s1 s2 g hx1 hx2=>hm.xsep s1 s2 g hx1.1 hx2.1,fun s g s2 l a c hx hl ho hs2=>hm.xown s g s2 l a c hx.1 (mown s2 l hl ho).2 ho hs2,fun s1 s2 k1 k2 a1 a2 c1 c2 hk1 hk2 ho1 ho2 hr1 hr2 hb=>hm.sep s1 s2 k1 k2 a1 a2 c1 c2 (mown s1 k1 hk1 ho1).2 (mown s2 k2 hk2 ho2).2 ho1 ho2 hr1 hr2 hb⟩
 ·rcases hg.1 with h | h
  ·rcases hg.2 with h2 | h2
   ·exact hm.rows g ⟨h,h2⟩
   ·exact((hm.xlt q g h2).2.1 h).elim
  ·exact .inr fun hk=>(hF g h).1 (hm.sub _ hk)
 ·rcases hg with h | h
  ·exact hm.hS g h
  ·exact(hF g h).2
 ·rcases mget s l hl with⟨rfl,rfl⟩ | ⟨es,hl⟩
  ·obtain⟨A,c,vs,h1,h2,h3,h4,h5,h6,h7⟩:=hm.blk s _ hq hs'
   refine⟨A,c,h1,?_,fun hn=>?_⟩
   ·rcases h2.2 with⟨_,h0⟩ | ⟨g,cap,cur,h,_,_,hnc,_⟩
    ·omega
    ·simp only[z0y] at h; omega
   ·rcases h2.2 with⟨_,h0⟩ | ⟨g,cap,cur,h,_,_,hnc,_⟩
    ·omega
    simp only[z0y] at h
    obtain⟨rfl,_,rfl⟩:=h
    refine⟨⟨g,0,none⟩,rfl,.inr (.inr ⟨_,_,h1,rfl⟩),fun j hj k col hk=>?_⟩
    have hk0:k=0:=by have:=(z0c.1 hk).1; simpa using this
    subst hk0
    simp at hk
    subst hk
    obtain⟨B,d,us,e1,e2,e3,e4⟩:=h5 j hj (by simp)
    refine⟨.slice B (len j) d,by simpa using h2.cells (g:=g) rfl _ _ (by simpa using e1),B,d,rfl,?_,fun h0=>?_⟩
    ·rcases e2.2 with⟨h,h0⟩ | ⟨g2,cap2,cur2,h,_,_,hnc2,_⟩
     ·omega
     ·simp only[z0y] at h; omega
    ·rcases e2.2 with⟨h,h0'⟩ | ⟨g2,cap2,cur2,h,_,_,hnc2,_⟩
     ·omega
     simp only[z0y] at h
     obtain⟨rfl,_,rfl⟩:=h
     have hx:=e3 _ rfl
     exact⟨⟨g2,0,none⟩,rfl,⟨.inr (.inl hx),.inr hx⟩,fun i hi kk gg hgg=>e2.cells (g:=g2) rfl _ _ (e4 i hi kk gg hgg)⟩
  ·have h0:=hm.blk s l hl hs'
   refine h0.mono (fun _ _ h=>h) (fun _ h=>.inl h) (fun _ h=>.inl h) (fun a' c' ho ha hbad=>?_) (fun g h=>⟨h,es⟩)
   rcases hbad with h | h | ⟨a,c,hq',eb⟩
   ·exact(t9 h0 ho ha).1 h
   ·exact hm.xown q _ s l a' c' h hl ho ha rfl
   ·exact es (hm.sep s q l _ a' a c' c hl hq ho rfl ha hq' eb.symm)
 ·obtain⟨x1,x2,x3⟩:=hm.xlt s g hx.1
  refine⟨by rw[d8]; exact x1,fun hs=>?_,x3⟩
  rcases hs with h | h | ⟨a,c,hq',eb⟩
  ·exact x2 h
  ·exact hx.2 (hm.xsep s q g hx.1 h)
  ·exact hm.xown s g q _ a c hx.1 hq rfl hq' eb
theorem b7s {cl:Call} {x y:Operand} {t r q n:Nat} {ti te:TI} {e':Nat} {lk lk2:Option Nat} {len len2:Nat→Nat} {gs gs2:List (Nat→Nat→Int)} {pre:List Prop} (hT:TabOk P T) (hm:MR K w0 W ρ m) (ho:o.op=.call cl) (hcal:cl.callee=.builtin .append) (hargs:cl.args.toList=[x,y]) (htys:cl.argTypes.toList=[t,t])
  (hti:g7 T.types t=some ti) (hte:g7 T.types ti.elem=some te) (k2:ti.kind=3) (hr:m[r]?=some (.orows ti.elem e' n none lk len gs)) (hq:m[q]?=some (.orows ti.elem e' 1 none lk2 len2 gs2)) (hdx:Den ρ (.sl r n) (a.eval x)) (hdy:Den ρ (.sl q 1) (a.eval y)) (hne:r≠q)
  (hgl:gs.length=gs2.length) (k4:te.size=1) (k6:te.zero.length=1) (p4:(n + 1) * te.bytes≤140737488355328) (p5:n + 1≤9223372036854775807) :
  OpTo P a o W (a2y K w0 ρ m ⟨pre,.sl r (n + 1),[r],[(r,.orows ti.elem e' (n + 1) none none (fun j=>bif Nat.blt j n then len j else len2 (j - n)) (a6o n gs gs2)),(q,.gone)],[]⟩):=by
 obtain⟨A,c0,hρ,ex,hnx⟩:=hdx.sl_inv
 obtain⟨Aq,cq,hρq,ey,hnq⟩:=hdy.sl_inv
 obtain⟨A',c',vs,h1,h2,h3,h4,h5,h6,h7⟩:=hm.blk r _ hr (by rw[hρ]; simp)
 rw[hρ] at h1
 simp only[z0a,z0g] at h1
 obtain⟨rfl,rfl⟩:=h1
 obtain⟨A',c',ws,b1,b2,b3,b4,b5,b6,b7⟩:=hm.blk q _ hq (by rw[hρq]; simp)
 rw[hρq] at b1
 simp only[z0a,z0g] at b1
 obtain⟨rfl,rfl⟩:=b1
 obtain⟨B,d,us,r1,r2,r3,r4⟩:=b5 0 z3s (by simp)
 obtain⟨ht1,ht2⟩:=q6 (hT.types t ti hti) k2
 obtain⟨i,hi,hisz,hiby,hiz⟩:=s4 (hT.types _ te hte)
 rw[k4] at hisz
 obtain⟨z,hz,hzd⟩:=hiz (fun e=>by rw[e] at k6; simp at k6)
 have hzs:z.cells.size=1:=by have:=(hzd ρ).1; rw[k6] at this; simpa using this
 have ha:cl.args = #[x,y]:=by rw[← Array.toArray_toList (xs:=cl.args),hargs]
 have hty:cl.argTypes = #[t,t]:=by rw[← Array.toArray_toList (xs:=cl.argTypes),htys]
 have hexec:∀ {v':Value} {W':World},(Builtin.append_ #[t,t] o.type #[.slice A n c0,.slice Aq 1 cq]).run P W=.ok v' W'→(execOp a.eval o).run P W=.ok (.value v') W':=fun {v' W'} hrun=>by
  simp only[execOp,ho,resolve,hcal,ha,hty,invoke,builtin,z1a,z3g,z0o,List.map_toArray,z2b,List.map_nil,ex,ey,hrun]
 have hvl:vs.length=n:=by have:=h2.1; omega
 have hwl:ws.length=1:=by have:=b2.1; omega
 obtain⟨ad,rfl⟩:∃ ad,Aq=some ad:=by
  cases Aq with
  | none=>exact(hnq z3s rfl).elim
  | some ad=>exact⟨ad,rfl⟩
 have hadg:ad=⟨ad.block,0,none⟩:=by
  rcases b2.2 with⟨h,_⟩ | ⟨g,cap,cur,h,_⟩
  ·cases h
  ·simp only[z0y,z0a] at h
   rw[h.1]
 have hws:ws=[.slice B (len2 0) d]:=by
  match ws,hwl,r1 with
  | [w],_,r1=>simpa using r1
 have hnews:∀ j u,([.slice B (len2 0) d]:List Value)[j]?=some u→W.cell? (ad.add j)=some u:=fun j u hu=>by
  rw[hadg]
  exact b2.cells (g:=ad.block) rfl _ u (by rw[hws]; exact hu)
 have hone:∀ u∈([.slice B (len2 0) d]:List Value),u.oneCell'=true:=fun u hu=>by
  simp only[z0r] at hu
  subst hu
  rfl
 have hml:n + 1≤maxLen:=by simp only[maxLen]; omega
 obtain⟨v',W',hrun,g1,g2,g3⟩:=run_append_own (P:=P) W 0 t o.type ti.elem i z 1 te.bytes ht1 hi hz hisz hiby hzs z3s (.slice A n c0) n vs h2 ad 1 cq [.slice B (len2 0) d] rfl hnews hone hml p4 (z2j _)
 have hwhere:=a8s (P:=P) ht1 hi hz hisz hiby h2 (by rfl) hnews hone z3s hml p4 hrun
 obtain⟨gn,capn,hv'⟩:∃ g cap,v'=.slice (some ⟨g,0,none⟩) (n + 1) cap:=by
  rcases g1.2 with⟨_,h0⟩ | ⟨g,cap,cur,e1,e2,e3,_⟩
  ·omega
  ·exact⟨g,cap,e1⟩
 subst hv'
 have hrow:∀ g,(Value.slice A n c0).ownBlock=some g→∃ a c,ρ r=some (some a,c)∧a.block=g:=fun g e=>by
  cases A with
  | none=>simp[Value.ownBlock] at e
  | some aa=>simp[Value.ownBlock] at e; exact⟨aa,c0,hρ,e⟩
 have hx:(∃ b c,ρ r=some (some b,c)∧b.block=gn)∨W.heap.size≤gn:=by
  rcases hwhere with hw | hw
  ·exact .inl (hrow gn (by rw[← hw]; rfl))
  ·simp[Value.ownBlock] at hw
   exact .inr (by omega)
 have hnoS:¬ ρ.S gn:=fun hs=>by
  rcases hx with⟨b,c,hb,e⟩ | hge
  ·rw[hρ] at hb
   simp only[z0a,z0g] at hb
   exact h3 b hb.1 (by rw[e]; exact hs)
  ·have:=hm.hS gn hs
   omega
 have hm0:=hm.absorb hr hq hne
 have hr0:(i4 m q .gone)[r]?=some (.orows ti.elem e' n none lk len gs):=by rw[j7,if_neg (by omega)]; exact hr
 have hXo:∀ s g,ρ.X s g→∀ g',(Value.slice A n c0).ownBlock=some g'→g≠g':=fun s g hxs g' hg' e=>by
  obtain⟨b,c,hb,e'⟩:=hrow g' hg'
  exact hm.xown s g r _ b c hxs hr rfl hb (e'.trans e.symm)
 have hgo:∀ {s:Nat} {C:Option Addr} {l dd:Nat} {ux:List Value},W.ownsRow 0 e' gs.length (.slice C l dd) l ux→(∀ b,C=some b→ρ.X s b.block)→W'.ownsRow 0 e' gs.length (.slice C l dd) l ux:=fun {s C l dd ux} hh hX=>by
  refine hh.kept g2 ?_
  cases C with
  | none=>exact .inl rfl
  | some b=>exact .inr (fun e=>hXo s _ (hX b rfl) b.block (by simpa [Value.ownBlock] using e.symm) rfl)
 have hcl:(a6o n gs gs2).length=gs.length:=a70 n hgl
 refine OpTo.value (hexec hrun) ⟨(d3b ρ r q).with r (some ⟨gn,0,none⟩,capn),fun s y hs hy=>by rw[Env.with_ne _ _ (by simpa using hs)]; exact hy,.sl (Env.with_same _ _ _) (fun _=>by simp),?_⟩
 have hmem:t4 (x6 [r] m) [(r,.orows ti.elem e' (n + 1) none none (fun j=>bif Nat.blt j n then len j else len2 (j - n)) (a6o n gs gs2)),(q,.gone)]=i4 (x6 [r] (i4 m q .gone)) r (.orows ti.elem e' (n + 1) none none (fun j=>bif Nat.blt j n then len j else len2 (j - n)) (a6o n gs gs2)):=by
  simp only[t4]
  apply List.ext_getElem?
  intro j
  simp only[j7,d8,a19,z6]
  by_cases e1:j=q
  ·subst e1
   by_cases e2:j < m.length
   ·simp[e2,Ne.symm hne,l9]
   ·simp[e2,Ne.symm hne]
  ·by_cases e2:j=r
   ·subst e2
    simp[e1,hne]
   ·simp[e1,e2]
 simp only[z1f]
 rw[hmem]
 refine hm0.turn hr0 rfl (by show ρ r≠none; rw[hρ]; simp) g2 hrow (fun b hb=>by simp only[z0a] at hb; subst hb; exact hx) ⟨_,capn,vs ++ [.slice B (len2 0) d],Env.with_same _ _ _,g1,fun b hb=>by simp only[z0a] at hb; subst hb; exact hnoS,by rw[hcl]; exact h4,fun j hj _=>?_,fun j j' B1 l1 d1 B2 l2 d2 hj hj' _ _ hv hv' hb=>?_,fun j q hj _=>(by cases hj)⟩
 ·by_cases hjn:j < n
  ·obtain⟨C,dd,ux,f1,f2,f3,f4⟩:=h5 j hjn (by simp)
   have hbl:Nat.blt j n=true:=by rw[z0u]; exact hjn
   refine⟨C,dd,ux,?_,?_,fun b hb=>.inl ⟨f3 b hb,hne⟩,fun ii hii kk g hg=>?_⟩
   ·simp only[hbl,z0f]
    rw[z0t (by omega)]
    exact f1
   ·simp only[hbl,z0f]
    rw[hcl]
    exact hgo f2 f3
   ·simp only[hbl,z0f] at hii
    obtain⟨g0,hg0,eg⟩:=b50 hjn kk g hgl hg
    rw[hcl,eg]
    exact f4 ii hii kk g0 hg0
  ·have ej:j=n:=by omega
   subst ej
   have hbl:Nat.blt j j=false:=by rw[z0z]; intro h; rw[z0u] at h; omega
   refine⟨B,d,us,?_,?_,fun b hb=>.inr ⟨rfl,r3 b hb⟩,fun ii hii kk g hg=>?_⟩
   ·simp only[hbl,z0m,Nat.sub_self]
    rw[z1c (by omega),hvl,Nat.sub_self]
    rfl
   ·simp only[hbl,z0m,Nat.sub_self]
    rw[hcl]
    rw[hgl]
    have:=hgo (s:=q) (by rw[hgl]; exact r2) r3
    rw[hgl] at this
    exact this
   ·simp only[hbl,z0m,Nat.sub_self] at hii
    obtain⟨g0,hg0,eg⟩:=b2i (z0q j) kk g hgl hg
    rw[hcl,eg,Nat.sub_self,hgl]
    exact r4 ii hii kk g0 hg0
 ·have ato:∀ {j2:Nat} {C:Addr} {l2 d2:Nat},j2 < n→(vs ++ [Value.slice B (len2 0) d])[j2]?=some (.slice (some C) l2 d2)→vs[j2]?=some (.slice (some C) l2 d2)∧ρ.X r C.block:=fun {j2 C l2 d2} hj2 hv2=>by
   rw[z0t (by omega)] at hv2
   refine⟨hv2,?_⟩
   obtain⟨C',dd,ux,f1,_,f3,_⟩:=h5 j2 hj2 (by simp)
   rw[hv2] at f1
   simp only[z0a,z0y] at f1
   exact f3 C f1.1.symm
  have atn:∀ {j2:Nat} {C:Addr} {l2 d2:Nat},j2 < n + 1→¬ j2 < n→(vs ++ [Value.slice B (len2 0) d])[j2]?=some (.slice (some C) l2 d2)→ρ.X q C.block:=fun {j2 C l2 d2} hj2 hn hv2=>by
   have:j2=n:=by omega
   subst this
   rw[z1c (by omega),hvl,Nat.sub_self] at hv2
   simp only[z3c,z0a,z0y] at hv2
   exact r3 C hv2.1
  by_cases e1:j < n <;> by_cases e2:j' < n
  ·exact h6 j j' B1 l1 d1 B2 l2 d2 e1 e2 (by simp) (by simp) (ato e1 hv).1 (ato e2 hv').1 hb
  ·have x1:=(ato e1 hv).2
   have x2:=atn hj' e2 hv'
   rw[hb] at x1
   exact absurd (hm.xsep r q _ x1 x2) hne
  ·have x1:=(ato e2 hv').2
   have x2:=atn hj e1 hv
   rw[hb] at x2
   exact absurd (hm.xsep r q _ x1 x2) hne
  ·omega
theorem d0f {cl:Call} {b:BRes} (hT:TabOk P T) (hG:GlobOk T ρ) (hm:MR K w0 W ρ m) (ho:o.op=.call cl) (hs':OpsOk ρ sl a ((Op.call cl).operands.toList)) (h:a0x T sl m [] (.call cl)=some b) (hp:∀ p∈b.pre,p) :
  OpTo P a o W (a2y K w0 ρ m b):=by
 have hc:sat a []:=fun q w hq=>by cases hq
 have hs:OpsOk ρ sl a cl.args.toList:=hs'.sub (by intro x hx; simp only[Op.operands,Call.operands]; simp; exact .inr (by simpa using hx))
 simp only[a0x] at h
 split at h
 ·rename_i f ys hcl
  split at h
  ·rename_i F vs hF hvs
   obtain⟨us,hd,e⟩:=a88 (W:=W) hG ho hs' hc hcl hvs (hT.callsB f F hF).fn
   have:=(hT.callsB f F hF).ok K w0 ρ W m _ _ b hG.gl hm hd h hp
   unfold OpTo
   rw[e]
   exact this
  ·cases h
 ·split at h
  ·rename_i x y t t' hcal hargs htys
   split at h
   ·rename_i ti r n q k hti hx hy
    split at h
    ·rename_i te e n' cols kq hte hr hq
     split at h
     ·rename_i k' cols' hsrc
      cases hk:(Nat.beq t t' && Nat.beq ti.kind 3 && Nat.beq e ti.elem && Nat.beq cols.length te.size && Nat.beq cols'.length te.size && Nat.beq te.zero.length te.size && Nat.blt 0 te.size && a2q cols')
      ·rw[hk] at h; cases h
      ·simp only[hk,z0f,z0a] at h
       subst h
       simp only[z0d,z0u] at hk
       obtain⟨⟨⟨⟨⟨⟨⟨k1,k2⟩,k3⟩,k4⟩,k5⟩,k6⟩,k7⟩,k8⟩:=hk
       obtain rfl:=z0b k1
       obtain rfl:=z0b k3
       have k5:=z0b k5
       have p1:n=n':=hp _ (by simp)
       have p2:k=k':=hp _ (by simp)
       have p4:(n + k) * te.bytes≤140737488355328:=hp _ (by simp)
       have p5:n + k≤9223372036854775807:=hp _ (by simp)
       subst p1
       have hdx:=f7 hG hx (hs.sub (by rw[hargs]; simp)) hc
       have hdy:=f7 hG hy (hs.sub (by rw[hargs]; simp)) hc
       obtain⟨Aq,cq,hρq,ey,_⟩:=hdy.sl_inv
       refine b0w hT hm ho hcal hargs htys hti hte (z0b k2) (p9 hr) hdx ey (z0b k4) k5 (z0b k6) k7 p4 p5 fun h0=>?_
       obtain⟨ad,news,hA,n1,n2,n3,n4⟩:=c2s (lo:=0) (k:=k) (hm.blk q kq (p9 hq) (by rw[hρq]; simp)) hsrc hρq (by omega) k8 (by omega) h0
       refine⟨ad,news,hA,by rw[← k5]; exact n1,fun j u hu=>?_,n3,fun j hj kk col hcol=>?_⟩
       ·have:=n2 j u hu
        simpa [Addr.add] using this
       ·obtain⟨u,hu,hd⟩:=n4 j hj kk (a2b 0 col) (by rw[a95,hcol]; rfl)
        exact⟨u,by rw[← k5]; exact hu,b4h cols' kk col _ _ _ _ hcol hd⟩
     ·cases h
    ·rename_i te e e1 n' lk len gs e2 e3 k' lk2 len2 gs2 hte hr hq
     cases hk:(Nat.beq t t' && Nat.beq ti.kind 3 && Nat.beq e ti.elem && Nat.beq e2 ti.elem && Nat.beq e1 e3 && Nat.beq gs.length gs2.length && Nat.beq te.size 1 && Nat.beq te.zero.length 1 && Nat.beq k 1 && Nat.beq k' 1 && !(Nat.beq r q))
     ·rw[hk] at h; cases h
     ·simp only[hk,z0f,z0a] at h
      subst h
      simp only[z0d] at hk
      obtain⟨⟨⟨⟨⟨⟨⟨⟨⟨⟨k1,k2⟩,k3⟩,k4⟩,k5⟩,k6⟩,k7⟩,k8⟩,k9⟩,k10⟩,k11⟩:=hk
      obtain rfl:=z0b k1
      obtain rfl:=z0b k3
      obtain rfl:=z0b k4
      obtain rfl:=z0b k5
      obtain rfl:=z0b k9
      obtain rfl:=z0b k10
      have p1:n=n':=hp _ (by simp)
      subst p1
      exact b7s hT hm ho hcal hargs htys hti hte (z0b k2) (p9 hr) (p9 hq) (f7 hG hx (hs.sub (by rw[hargs]; simp)) hc) (f7 hG hy (hs.sub (by rw[hargs]; simp)) hc) (fun e=>by subst e; simp at k11) (z0b k6) (z0b k7) (z0b k8) (hp _ (by simp)) (hp _ (by simp))
    ·cases h
   ·rename_i ti r n q sz lo k hti hx hy
    split at h
    ·rename_i te e n' cols kq hte hr hq
     split at h
     ·rename_i k' cols' hsrc
      cases hk:(Nat.beq t t' && Nat.beq ti.kind 3 && Nat.beq e ti.elem && Nat.beq cols.length te.size && Nat.beq cols'.length te.size && Nat.beq te.zero.length te.size && Nat.blt 0 te.size && a2q cols' && Nat.beq sz te.size)
      ·rw[hk] at h; cases h
      ·simp only[hk,z0f,z0a] at h
       subst h
       simp only[z0d,z0u] at hk
       obtain⟨⟨⟨⟨⟨⟨⟨⟨k1,k2⟩,k3⟩,k4⟩,k5⟩,k6⟩,k7⟩,k8⟩,k9⟩:=hk
       obtain rfl:=z0b k1
       obtain rfl:=z0b k3
       have k5:=z0b k5
       have k9:=z0b k9
       have p1:n=n':=hp _ (by simp)
       have p2:lo + k≤k':=hp _ (by simp)
       have p4:(n + k) * te.bytes≤140737488355328:=hp _ (by simp)
       have p5:n + k≤9223372036854775807:=hp _ (by simp)
       subst p1
       have hdx:=f7 hG hx (hs.sub (by rw[hargs]; simp)) hc
       have hdy:=f7 hG hy (hs.sub (by rw[hargs]; simp)) hc
       obtain⟨Aq,cq,A',c',hρq,ey,hne⟩:=hdy.sub_inv
       refine b0w hT hm ho hcal hargs htys hti hte (z0b k2) (p9 hr) hdx ey (z0b k4) (by rw[b1f]; exact k5) (z0b k6) k7 p4 p5 fun h0=>?_
       obtain⟨ad,news,hA,n1,n2,n3,n4⟩:=c2s (lo:=lo) (k:=k) (hm.blk q kq (p9 hq) (by rw[hρq]; simp)) hsrc hρq (by omega) k8 p2 h0
       obtain⟨_,hA'⟩:=hne h0
       refine⟨ad.add (lo * sz),news,by rw[hA',hA]; rfl,by rw[← k5]; exact n1,fun j u hu=>by rw[k9,← k5]; exact n2 j u hu,n3,fun j hj kk col hcol=>by rw[← k5]; exact n4 j hj kk col hcol⟩
     ·cases h
    ·cases h
   ·cases h
  ·rename_i x t hcal hargs htys
   split at h
   ·rename_i ti r sz lo n hti hx
    split at h
    ·rename_i te e n' g hte hr
     split at h
     ·rename_i hik
      cases hk:(Nat.beq ti.kind 3 && Nat.beq te.kind 0 && Nat.beq sz 1)
      ·rw[hk] at h; cases h
      ·simp only[hk,z0f,z0a] at h
       subst h
       simp only[z0d] at hk
       obtain⟨⟨k1,k2⟩,k3⟩:=hk
       obtain rfl:=z0b k3
       have p1:lo + n=n':=hp _ (by simp)
       exact c7s hT hG hm ho hcal hargs htys (hs.sub (by rw[hargs]; simp)) hx hti (z0b k1) hte (z0b k2) hik (p9 hr) p1
     ·cases h
    ·cases h
   ·cases h
  ·cases h
theorem b4z:∀ {cols:List Col} {gs:List (Nat→Nat→Int)},b2c cols=some gs→gs.length=cols.length∧∀(k:Nat) (g:Nat→Nat→Int),gs[k]?=some g→∃ h:Nat→Int,cols[k]?=some (.int .i64 h)∧g=fun _=>h:=by
 intro cols
 induction cols with
 | nil=>intro gs h; simp only[b2c,z0a] at h; subst h; simp
 | cons c r ih =>
  intro gs h
  unfold b2c at h
  split at h
  ·simp at *
  ·rename_i g r' heq
   simp only[z3j] at heq
   obtain⟨rfl,rfl⟩:=heq
   split at h
   ·rename_i l hl
    simp only[z0a] at h
    subst h
    obtain⟨h1,h2⟩:=ih hl
    refine⟨by simp[h1],fun k g' hk=>?_⟩
    cases k with
    | zero=>simp at hk; subst hk; exact⟨g,rfl,rfl⟩
    | succ k=>simpa using h2 k g' (by simpa using hk)
   ·cases h
  ·cases h
def a1h (ρ:Env) (n:Nat) (A:Option Addr):Env:=⟨ρ.f,fun g=>ρ.S g∨(0 < n∧∃ a,A=some a∧a.block=g),fun g=>ρ.T g∨(0 < n∧∃ a,A=some a∧a.block=g),ρ.X⟩
theorem MR.recol {r e:Nat} {cols cs:List Col} (hm:MR K w0 W ρ m) (hr:m[r]?=some (.oarr e 0 cols)) (hl:cs.length=cols.length):MR K w0 W ρ (i4 m r (.oarr e 0 cs)):=by
 have hrm:r < m.length:=(z0c.1 hr).1
 have hBR:ρ r≠none→BR ρ W r (.oarr e 0 cs):=fun hne=>by
  obtain⟨A,c,vs,h1,h2,h3,h4,_⟩:=hm.blk r _ hr hne
  exact⟨A,c,vs,h1,by rw[hl]; exact h2,h3,by omega,fun j hj=>by omega⟩
 have key:∀ {s:Nat} {l:MBlk},(i4 m r (.oarr e 0 cs))[s]?=some l→∃ l',m[s]?=some l'∧l7 l'=l7 l∧(s=r→l=.oarr e 0 cs)∧(s≠r→l'=l):=fun {s l} h=>by
  rw[j7] at h
  by_cases e1:s=r
  ·subst e1
   rw[if_pos ⟨rfl,hrm⟩] at h
   simp only[z0a] at h
   subst h
   exact⟨_,hr,rfl,fun _=>rfl,fun h=>absurd rfl h⟩
  ·rw[if_neg (by omega)] at h
   exact⟨l,h,rfl,fun h=>absurd h e1,fun _=>rfl⟩
 refine⟨hm.sub,hm.rows,hm.hS,hm.below,fun s l hl hs'=>?_,fun s hs'=>by rw[d8]; exact hm.dom s hs',fun s g hx=>by rw[d8]; exact hm.xlt s g hx,hm.xsep,fun s g q l a c hxs hk ho hq=>?_,fun s q l l' a b c d hk hk' ho ho' hs1 hs2 hb=>?_⟩
 ·obtain⟨l',h1,_,h3,h4⟩:=key hl
  by_cases e1:s=r
  ·rw[h3 e1]; subst e1; exact hBR hs'
  ·rw[← h4 e1]; exact hm.blk s l' h1 hs'
 ·obtain⟨l',h1,h2,_⟩:=key hk
  exact hm.xown s g q l' a c hxs h1 (by rw[h2]; exact ho) hq
 ·obtain⟨l1,h1,h2,_⟩:=key hk
  obtain⟨l2,h3,h4,_⟩:=key hk'
  exact hm.sep s q l1 l2 a b c d h1 h3 (by rw[h2]; exact ho) (by rw[h4]; exact ho') hs1 hs2 hb
theorem MR.give {q e n:Nat} {cols:List Col} {A:Option Addr} {c:Nat} (hm:MR K w0 W ρ m) (hq:m[q]?=some (.oarr e n cols)) (hρ:ρ q=some (A,c)) :
  MR K w0 W (a1h ρ n A) (i4 m q (.arr n cols))∧n≤c∧(0 < n→∃ ad,A=some ad∧(a1h ρ n A).R ad.block∧∀ j,j < n→∀ k col,cols[k]?=some col→∃ v,W.cell? (ad.add (j * cols.length + k))=some v∧j4 (a1h ρ n A).R W col j v):=by
 have hqm:q < m.length:=(z0c.1 hq).1
 have hb:=hm.blk q _ hq (by rw[hρ]; simp)
 have hSle:∀ g,ρ.S g→(a1h ρ n A).S g:=fun g h=>.inl h
 have hTle:∀ g,ρ.T g→(a1h ρ n A).T g:=fun g h=>.inl h
 have hown:∀ a,A=some a→¬ ρ.S a.block∧a.block < W.heap.size:=fun a ha=>t9 hb rfl (by rw[hρ,ha])
 have hnc:n≤c:=by
  obtain⟨A',c',vs,h1,h2,_⟩:=hb
  rw[hρ] at h1
  simp only[z0a,z0g] at h1
  obtain⟨rfl,rfl⟩:=h1
  rcases h2.2 with⟨_,h0⟩ | ⟨g,cap,cur,h,_,_,hnc,_⟩
  ·omega
  ·simp only[z0y] at h; omega
 have hread:0 < n→∃ ad,A=some ad∧(a1h ρ n A).R ad.block∧∀ j,j < n→∀ k col,cols[k]?=some col→∃ v,W.cell? (ad.add (j * cols.length + k))=some v∧j4 (a1h ρ n A).R W col j v:=fun h0=>by
  obtain⟨ad,hA,h3⟩:=b9l hb rfl hρ h0
  refine⟨ad,hA,⟨.inr ⟨h0,ad,hA,rfl⟩,.inr ⟨h0,ad,hA,rfl⟩⟩,fun j hj k col hcol=>?_⟩
  obtain⟨v,hv,hd⟩:=h3 j hj k col hcol
  exact⟨v,hv,s7 hd (fun g hg=>⟨hSle g hg.1,hTle g hg.2⟩) (fun _ _=>rfl)⟩
 refine⟨⟨fun g hg=>.inl (hm.sub g hg),fun g hg=>?_,fun g hg=>?_,hm.below,fun s l hl hs'=>?_,fun s hs'=>by rw[d8]; exact hm.dom s hs',fun s g hx=>?_,hm.xsep,fun s g s2 l a c' hx hl ho hs2=>?_,?_⟩,hnc,hread⟩
 ·rcases hg with⟨hg1,hg2⟩
  have c9x:(0 < n∧∃ a,A=some a∧a.block=g)→K.row g∨¬ K.keep g:=fun⟨_,a,ha,e⟩=>.inr fun hk=>(hown a ha).1 (by rw[e]; exact hm.sub g hk)
  rcases hg2 with h | h
  ·rcases hg1 with h' | h'
   ·exact hm.rows g ⟨h',h⟩
   ·exact c9x h'
  ·exact c9x h
 ·rcases hg with h | ⟨h0,a,ha,rfl⟩
  ·exact hm.hS g h
  ·exact(hown a ha).2
 ·rw[j7] at hl
  by_cases e:s=q
  ·subst e
   rw[if_pos ⟨rfl,hqm⟩] at hl
   simp only[z0a] at hl
   subst hl
   exact⟨A,c,hρ,hnc,fun h0=>by obtain⟨ad,h1,h2,h3⟩:=hread h0; exact⟨ad,h1,h2.1,h3⟩⟩
  ·rw[if_neg (by omega)] at hl
   have h0:=hm.blk s l hl hs'
   refine h0.mono (fun _ _ h=>h) hSle hTle (fun a c' ho ha hbad=>?_) (fun g h=>h)
   rcases hbad with h | ⟨hn0,a',ha',eb⟩
   ·exact(t9 h0 ho ha).1 h
   ·exact e (hm.sep s q l _ a a' c' c hl hq ho rfl ha (by rw[hρ,ha']) eb.symm)
 ·obtain⟨h1,h2,h3⟩:=hm.xlt s g hx
  refine⟨by rw[d8]; exact h1,fun hs=>?_,h3⟩
  rcases hs with h | ⟨_,a,ha,eb⟩
  ·exact h2 h
  ·exact hm.xown s g q _ a c hx hq rfl (by rw[hρ,ha]) eb
 ·rw[j7] at hl
  by_cases e:s2=q
  ·subst e
   rw[if_pos ⟨rfl,hqm⟩] at hl
   simp only[z0a] at hl
   subst hl
   simp[l7] at ho
  ·rw[if_neg (by omega)] at hl
   exact hm.xown s g s2 l a c' hx hl ho hs2
 ·have key:∀ {s:Nat} {l:MBlk},(i4 m q (.arr n cols))[s]?=some l→l7 l=true→m[s]?=some l:=fun {s l} hl ho=>by
   rw[j7] at hl
   by_cases e:s=q
   ·subst e
    rw[if_pos ⟨rfl,hqm⟩] at hl
    simp only[z0a] at hl
    subst hl
    simp[l7] at ho
   ·rw[if_neg (by omega)] at hl
    exact hl
  intro s1 s2 k1 k2 a1 a2 c1 c2 hk1 hk2 ho1 ho2 hr1 hr2 hb
  exact hm.sep s1 s2 k1 k2 a1 a2 c1 c2 (key hk1 ho1) (key hk2 ho2) ho1 ho2 hr1 hr2 hb
theorem d41 {t:Nat} {ps:Array (Nat × Operand)} {b:BRes} (hT:TabOk P T) (hG:GlobOk T ρ) (hm:MR K w0 W ρ m) (hf:ρ m.length=none) (ho:o.op=.buildSlice t 1 ps) (hs:OpsOk ρ sl a (ps.toList.map (·.2))) (h:a0x T sl m [] (.buildSlice t 1 ps)=some b) (hp:∀ p∈b.pre,p) :
  OpTo P a o W (a2y K w0 ρ m b):=by
 have hc:sat a []:=fun q w hq=>by cases hq
 simp only[a0x] at h
 split at h
 ·rename_i ti q n hti hvs
  split at h
  ·rename_i te e' n' cols hte hq
   ·split at h
    ·rename_i gs hgs
     cases hk:(Nat.beq ti.kind 3 && Nat.beq te.kind 3 && Nat.beq te.size 1 && Nat.beq te.zero.length 1)
     ·rw[hk] at h; cases h
     ·simp only[hk,z0f,z0a] at h
      subst h
      simp only[z0d] at hk
      obtain⟨⟨⟨k1,k2⟩,k3⟩,k4⟩:=hk
      have k1:=z0b k1
      have k3:=z0b k3
      have k4:=z0b k4
      have p1:n=n':=hp _ (by simp)
      subst p1
      obtain⟨h1,h2⟩:=a0v hG hvs hs hc
      simp only[z2b,List.map_nil] at h1 h2
      obtain⟨v,vs0,ev,hdv,hnil⟩:=h2.inv
      obtain rfl:=hnil.inv_nil
      obtain⟨A,cc,hρq,rfl,hne⟩:=hdv.sl_inv
      obtain⟨hmg,hnc,hread⟩:=hm.give (p9 hq) hρq
      obtain⟨i,hi,hsz,_,hzero⟩:=s4 (hT.types _ te hte)
      obtain⟨z,hz1,hz2⟩:=hzero (by intro e; simp[e] at k4)
      have hu:=(q6 (hT.types t ti hti) k1).1
      have hps:ps.toList.map (fun p=>(p.1,a.eval p.2))=[(0,.slice A n cc)]:=by
       match hpl:ps.toList,h1,ev with
       | [p],h1,ev =>
        obtain⟨p1,p2⟩:=p
        simp at h1 ev
        simp[h1,ev]
       | [],h1,_=>simp at h1
       | _ :: _ :: _,h1,_=>simp at h1
      have hzl:z.cells.size=1:=by have:=(hz2 ρ).1; rw[k4] at this; simpa using this
      have hrun:(execOp a.eval o).run P W=.ok (.value (.slice (some ⟨W.heap.size,0,none⟩) 1 1)) (W.alloc (.cells #[.slice A n cc] ti.elem)):=by
       have hf':Instr.fill (fun i=>some (i * te.size,te.size)) ((Array.range (1 * i.size)).map (z.cells[· % z.cells.size]!)) (ps.map fun(i,x)=>(i,a.eval x)).toList=some #[.slice A n cc]:=by
        rw[z3h,hps]
        have hgen:∀ B:Array Value,B.size=1→B.setIfInBounds 0 (.slice A n cc) = #[.slice A n cc]:=fun B hB=>by
         apply Array.ext
         ·simp[hB]
         ·intro j h1 h2
          simp at h2
          subst h2
          simp
        have:=hgen ((Array.range (1 * i.size)).map (z.cells[· % z.cells.size]!)) (by simp[hsz,k3])
        simp[Instr.fill,hsz,k3,Value.cells] at this ⊢
        exact this
       simp only[execOp,ho,z1a,run_buildSlice W t ti.elem 1 _ #[.slice A n cc] i z hu hi hz1 (by rw[hsz]; omega) (by rw[hsz]; omega) (by rw[hsz] at *; exact hf'),z0o]
       rfl
      have hgrow:=hmg.grow (W':=W.alloc (.cells #[.slice A n cc] ti.elem)) (σ:=(a1h ρ n A).with m.length (some ⟨W.heap.size,0,none⟩,1)) (new:=[.oarr ti.elem 1 [.rows (fun _=>n) gs]]) ((Below.refl _ _).alloc (z0q _) _) (fun r hr=>by rw[d8] at hr; exact Env.with_ne _ _ (by simp at hr; omega)) (.with _ _ _ _ _) ?_
      ·refine OpTo.value hrun ⟨(a1h ρ n A).with m.length (some ⟨W.heap.size,0,none⟩,1),fun r y _ hy=>?_,.sl (Env.with_same _ _ _) (fun _=>by simp),?_⟩
       ·rw[Env.with_ne]
        ·exact hy
        ·intro e; subst e; rw[hf] at hy; cases hy
       ·simpa only[t8,t4] using hgrow
      ·rw[d8]
       refine⟨fun k b hk hne'=>?_,fun k b ad c' hk ho' hx=>?_,fun k l b d ad c' x y hk hl _ _ _ _ _=>?_⟩
       ·have:k=0:=by have:=(z0c.1 hk).1; simpa using this
        subst this
        simp at hk
        subst hk
        refine⟨some ⟨W.heap.size,0,none⟩,1,[.slice A n cc],Env.with_same _ _ _,?_,fun ad had hs'=>?_,by simp,fun j hj kk col hcol=>?_⟩
        ·have:=z3p (base:=0) (e:=ti.elem) (size:=1) W #[.slice A n cc] 1 (z2j _) (by simp[maxLen]) (by simp)
         simpa using this
        ·simp only[z0a] at had
         subst had
         exact absurd (hmg.hS _ hs') (z1k _)
        ·have hj0:j=0:=by omega
         subst hj0
         have hk0:kk=0:=by have:=(z0c.1 hcol).1; simpa using this
         subst hk0
         simp at hcol
         subst hcol
         refine⟨_,rfl,A,cc,rfl,hnc,fun h0=>?_⟩
         obtain⟨ad,hA,hS,hcell⟩:=hread h0
         obtain⟨g1,g2⟩:=b4z hgs
         refine⟨ad,hA,hS,fun i hi k g hg=>?_⟩
         obtain⟨h',hc',rfl⟩:=g2 k g hg
         obtain⟨u,hu',hd'⟩:=hcell i hi k _ hc'
         simp only[j4] at hd'
         subst hd'
         rw[g1,z2e (w:=W) (Below.heap_alloc _ _ _ (by rw[block_add]; exact hmg.hS _ hS.1))]
         exact hu'
       ·have:k=0:=by have:=(z0c.1 hk).1; simpa using this
        subst this
        simp only[z1i,Env.with_same,z0a,z0g] at hx
        rw[← hx.1]
        exact z0q _
       ·have h1:=(z0c.1 hk).1
        have h2:=(z0c.1 hl).1
        simp at h1 h2
        omega
    ·cases h
  ·cases h
 ·cases h
theorem a7e {W:World} {g:Nat} {o':Obj}:W.grownBy { W with heap:=W.heap.setIfInBounds g o' } (some g):=
 ⟨rfl,rfl,rfl,by simp,fun k _ hne=>by
  have:g≠k:=fun e=>hne (by rw[e])
  simp[this]⟩
theorem b6j (gs:List (Nat→Nat→Int)) (ix k:Nat) (col:Col) (h:(a01 gs ix)[k]?=some col):∃ g,gs[k]?=some g∧col=.int .i64 (g ix):=by
 rw[a6u,z0h] at h
 obtain⟨g,hg,rfl⟩:=h
 exact⟨g,hg,rfl⟩
theorem d0g {t:Nat} {ps:Array (Nat × Operand)} {b:BRes} (hT:TabOk P T) (hG:GlobOk T ρ) (hm:MR K w0 W ρ m) (hf:ρ m.length=none) (ho:o.op=.buildSlice t 2 ps) (hs:OpsOk ρ sl a (ps.toList.map (·.2))) (h:a0x T sl m [] (.buildSlice t 2 ps)=some b) (hp:∀ p∈b.pre,p) :
  OpTo P a o W (a2y K w0 ρ m b):=by
 have hc:sat a []:=fun q w hq=>by cases hq
 simp only[a0x] at h
 split at h
 ·rename_i ti q0 n0 q1 n1 hti hvs
  split at h
  ·rename_i te _ k0 g0 _ k1 g1 hte hq0 hq1
   cases hk:(Nat.beq ti.kind 3 && Nat.beq te.kind 3 && Nat.beq te.size 1 && Nat.beq te.zero.length 1 && !(Nat.beq q0 q1))
   ·rw[hk] at h; cases h
   ·simp only[hk,z0f,z0a] at h
    subst h
    simp only[z0d,z0x] at hk
    obtain⟨⟨⟨⟨k1',k2'⟩,k3⟩,k4⟩,d01⟩:=hk
    have d01:=z2u d01
    have k1':=z0b k1'
    have k3:=z0b k3
    have k4:=z0b k4
    have p0:n0=k0:=hp _ (by simp)
    have p1:n1=k1:=hp _ (by simp)
    subst p0; subst p1
    obtain⟨h1,h2⟩:=a0v hG hvs hs hc
    simp only[z2b,List.map_nil] at h1 h2
    obtain⟨v0,vs0,ev0,hd0,h2⟩:=h2.inv
    obtain⟨v1,vs1,rfl,hd1,hnil⟩:=h2.inv
    obtain rfl:=hnil.inv_nil
    obtain⟨A0,c0,hρ0,rfl,_⟩:=hd0.sl_inv
    obtain⟨A1,c1,hρ1,rfl,_⟩:=hd1.sl_inv
    have hq0:=p9 hq0
    have hq1:=p9 hq1
    obtain⟨hm0,hn0,hr0⟩:=hm.give hq0 hρ0
    obtain⟨hmg,hn1,hr1⟩:=hm0.give (q:=q1) (by rw[j7,if_neg (by omega)]; exact hq1) hρ1
    obtain⟨i,hi,hsz,_,hzero⟩:=s4 (hT.types _ te hte)
    obtain⟨z,hz1,hz2⟩:=hzero (by intro e; simp[e] at k4)
    have hu:=(q6 (hT.types t ti hti) k1').1
    have hps:ps.toList.map (fun p=>(p.1,a.eval p.2))=[(0,.slice A0 n0 c0),(1,.slice A1 n1 c1)]:=by
     match hpl:ps.toList,h1,ev0 with
     | [p,p'],h1,ev =>
      obtain⟨p1,p2⟩:=p
      obtain⟨p1',p2'⟩:=p'
      simp at h1 ev
      simp[h1,ev]
     | [],h1,_=>simp at h1
     | [_],h1,_=>simp at h1
     | _ :: _ :: _ :: _,h1,_=>simp at h1
    have hzl:z.cells.size=1:=by have:=(hz2 ρ).1; rw[k4] at this; simpa using this
    let L:List Value:=[.slice A0 n0 c0,.slice A1 n1 c1]
    have hrun:(execOp a.eval o).run P W=.ok (.value (.slice (some ⟨W.heap.size,0,none⟩) 2 2)) (W.alloc (.cells L.toArray ti.elem)):=by
     have hf':Instr.fill (fun i=>some (i * te.size,te.size)) ((Array.range (2 * i.size)).map (z.cells[· % z.cells.size]!)) (ps.map fun(i,x)=>(i,a.eval x)).toList=some L.toArray:=by
      rw[z3h,hps]
      have hgen:∀ B:Array Value,B.size=2→(B.setIfInBounds 0 (.slice A0 n0 c0)).setIfInBounds 1 (.slice A1 n1 c1)=L.toArray:=fun B hB=>by
       apply Array.ext
       ·simp[hB,L]
       ·intro j h1 h2
        simp[L] at h2
        match j,h2 with
        | 0,_=>simp[L,Array.getElem_setIfInBounds,hB]
        | 1,_=>simp[L]
      have:=hgen ((Array.range (2 * i.size)).map (z.cells[· % z.cells.size]!)) (by simp[hsz,k3])
      simp[Instr.fill,hsz,k3,Value.cells] at this ⊢
      exact this
     simp only[execOp,ho,z1a,run_buildSlice W t ti.elem 2 _ L.toArray i z hu hi hz1 (by rw[hsz]; omega) (by rw[hsz]; omega) (by rw[hsz] at *; exact hf'),z0o]
     rfl
    generalize hσ0:a1h (a1h ρ n0 A0) n1 A1=σ0 at *
    have hRS:∀ g,(a1h ρ n0 A0).R g→σ0.R g:=fun g h=>by subst hσ0; exact⟨.inl h.1,.inl h.2⟩
    have hσf:∀ r,σ0 r=ρ r:=fun r=>by subst hσ0; rfl
    have hgrow:=hmg.grow (W':=W.alloc (.cells L.toArray ti.elem)) (σ:=σ0.with m.length (some ⟨W.heap.size,0,none⟩,2)) (new:=[.oarr ti.elem 2 [.rows (s6 n0 n1 n1) [s6 g0 g1 g1]]]) ((Below.refl _ _).alloc (z0q _) _) (fun r hr=>by simp only[d8] at hr; exact Env.with_ne _ _ (by simp at hr; omega)) (.with _ _ _ _ _) ?_
    ·refine OpTo.value hrun ⟨σ0.with m.length (some ⟨W.heap.size,0,none⟩,2),fun r y _ hy=>?_,.sl (Env.with_same _ _ _) (fun _=>by simp),?_⟩
     ·rw[Env.with_ne,hσf]
      ·exact hy
      ·intro e; subst e; rw[hf] at hy; cases hy
     ·simpa only[t8,t4] using hgrow
    ·simp only[d8]
     refine⟨fun k b hk hne'=>?_,fun k b ad c' hk ho' hx=>?_,fun k l b d ad c' x y hk hl _ _ _ _ _=>?_⟩
     ·have:k=0:=by have:=(z0c.1 hk).1; simpa using this
      subst this
      simp at hk
      subst hk
      refine⟨some ⟨W.heap.size,0,none⟩,2,L,Env.with_same _ _ _,?_,fun ad had hs'=>?_,by simp,fun j hj kk col hcol=>?_⟩
      ·have:=z3p (base:=0) (e:=ti.elem) (size:=1) W L.toArray 2 (z2j _) (by simp[maxLen]) (by simp[L])
       simpa using this
      ·simp only[z0a] at had
       subst had
       exact absurd (hmg.hS _ hs') (z1k _)
      ·have hk0:kk=0:=by have:=(z0c.1 hcol).1; simpa using this
       subst hk0
       simp at hcol
       subst hcol
       have key:∀ {n:Nat} {A:Option Addr} {cc:Nat} {g:Nat→Int} {σ1:Env},n≤cc→(∀ g,σ1.R g→σ0.R g)→(0 < n→∃ ad,A=some ad∧σ1.R ad.block∧∀ j,j < n→∀ k col,[Col.int .i64 g][k]?=some col→∃ v,W.cell? (ad.add (j * [Col.int .i64 g].length + k))=some v∧j4 σ1.R W col j v) →
         ∀(len:Nat→Nat) (gs:List (Nat→Nat→Int)) (j:Nat),len j=n→(∀ k h,gs[k]?=some h→k=0∧h j=g)→gs.length=1→j4 (σ0.with m.length (some ⟨W.heap.size,0,none⟩,2)).R (W.alloc (.cells L.toArray ti.elem)) (.rows len gs) j (.slice A n cc):=fun {n A cc g σ1} hnc hle hread len gs j e1 e2 e3=>by
        subst e1
        refine⟨A,cc,rfl,hnc,fun h0=>?_⟩
        obtain⟨ad,hA,hS,hcell⟩:=hread h0
        have hS0:=hle _ hS
        refine⟨ad,hA,hS0,fun i hi k h hg=>?_⟩
        obtain⟨rfl,e2⟩:=e2 k h hg
        obtain⟨u,hu',hd'⟩:=hcell i hi 0 _ rfl
        simp only[j4] at hd'
        subst hd'
        rw[e3,e2,z2e (w:=W) (Below.heap_alloc _ _ _ (by rw[block_add]; exact hmg.hS _ hS0.1))]
        simpa using hu'
       match j,hj with
       | 0,_=>exact⟨_,rfl,key hn0 hRS hr0 _ _ 0 rfl (fun k h hk=>by match k,hk with | 0,hk=>simp at hk; subst hk; exact⟨rfl,rfl⟩) rfl⟩
       | 1,_=>exact⟨_,rfl,key hn1 (fun _ h=>h) hr1 _ _ 1 rfl (fun k h hk=>by match k,hk with | 0,hk=>simp at hk; subst hk; exact⟨rfl,rfl⟩) rfl⟩
     ·have:k=0:=by have:=(z0c.1 hk).1; simpa using this
      subst this
      simp only[z1i,Env.with_same,z0a,z0g] at hx
      rw[← hx.1]
      exact z0q _
     ·have h1:=(z0c.1 hk).1
      have h2:=(z0c.1 hl).1
      simp at h1 h2
      omega
  ·cases h
 ·cases h
theorem d0h {t:Nat} {ps:Array (Nat × Operand)} {b:BRes} (hT:TabOk P T) (hG:GlobOk T ρ) (hm:MR K w0 W ρ m) (hf:ρ m.length=none) (ho:o.op=.buildSlice t 3 ps) (hs:OpsOk ρ sl a (ps.toList.map (·.2))) (h:a0x T sl m [] (.buildSlice t 3 ps)=some b) (hp:∀ p∈b.pre,p) :
  OpTo P a o W (a2y K w0 ρ m b):=by
 have hc:sat a []:=fun q w hq=>by cases hq
 simp only[a0x] at h
 split at h
 ·rename_i ti q0 n0 q1 n1 q2 n2 hti hvs
  split at h
  ·rename_i te _ k0 g0 _ k1 g1 _ k2 g2 hte hq0 hq1 hq2
   cases hk:(Nat.beq ti.kind 3 && Nat.beq te.kind 3 && Nat.beq te.size 1 && Nat.beq te.zero.length 1 && !(Nat.beq q0 q1) && !(Nat.beq q0 q2) && !(Nat.beq q1 q2))
   ·rw[hk] at h; cases h
   ·simp only[hk,z0f,z0a] at h
    subst h
    simp only[z0d,z0x] at hk
    obtain⟨⟨⟨⟨⟨⟨k1',k2'⟩,k3⟩,k4⟩,d01⟩,d02⟩,d12⟩:=hk
    have d01:=z2u d01
    have d02:=z2u d02
    have d12:=z2u d12
    have k1':=z0b k1'
    have k3:=z0b k3
    have k4:=z0b k4
    have p0:n0=k0:=hp _ (by simp)
    have p1:n1=k1:=hp _ (by simp)
    have p2:n2=k2:=hp _ (by simp)
    subst p0; subst p1; subst p2
    obtain⟨h1,h2⟩:=a0v hG hvs hs hc
    simp only[z2b,List.map_nil] at h1 h2
    obtain⟨v0,vs0,ev0,hd0,h2⟩:=h2.inv
    obtain⟨v1,vs1,rfl,hd1,h2⟩:=h2.inv
    obtain⟨v2,vs2,rfl,hd2,hnil⟩:=h2.inv
    obtain rfl:=hnil.inv_nil
    obtain⟨A0,c0,hρ0,rfl,_⟩:=hd0.sl_inv
    obtain⟨A1,c1,hρ1,rfl,_⟩:=hd1.sl_inv
    obtain⟨A2,c2,hρ2,rfl,_⟩:=hd2.sl_inv
    have hq0:=p9 hq0
    have hq1:=p9 hq1
    have hq2:=p9 hq2
    obtain⟨hm0,hn0,hr0⟩:=hm.give hq0 hρ0
    obtain⟨hm1,hn1,hr1⟩:=hm0.give (q:=q1) (by rw[j7,if_neg (by omega)]; exact hq1) hρ1
    obtain⟨hmg,hn2,hr2⟩:=hm1.give (q:=q2) (by rw[j7,if_neg (by omega),j7,if_neg (by omega)]; exact hq2) hρ2
    obtain⟨i,hi,hsz,_,hzero⟩:=s4 (hT.types _ te hte)
    obtain⟨z,hz1,hz2⟩:=hzero (by intro e; simp[e] at k4)
    have hu:=(q6 (hT.types t ti hti) k1').1
    have hps:ps.toList.map (fun p=>(p.1,a.eval p.2))=[(0,.slice A0 n0 c0),(1,.slice A1 n1 c1),(2,.slice A2 n2 c2)]:=by
     match hpl:ps.toList,h1,ev0 with
     | [p,p',p''],h1,ev =>
      obtain⟨p1,p2⟩:=p
      obtain⟨p1',p2'⟩:=p'
      obtain⟨p1'',p2''⟩:=p''
      simp at h1 ev
      simp[h1,ev]
     | [],h1,_=>simp at h1
     | [_],h1,_=>simp at h1
     | [_,_],h1,_=>simp at h1
     | _ :: _ :: _ :: _ :: _,h1,_=>simp at h1
    have hzl:z.cells.size=1:=by have:=(hz2 ρ).1; rw[k4] at this; simpa using this
    let L:List Value:=[.slice A0 n0 c0,.slice A1 n1 c1,.slice A2 n2 c2]
    have hrun:(execOp a.eval o).run P W=.ok (.value (.slice (some ⟨W.heap.size,0,none⟩) 3 3)) (W.alloc (.cells L.toArray ti.elem)):=by
     have hf':Instr.fill (fun i=>some (i * te.size,te.size)) ((Array.range (3 * i.size)).map (z.cells[· % z.cells.size]!)) (ps.map fun(i,x)=>(i,a.eval x)).toList=some L.toArray:=by
      rw[z3h,hps]
      have hgen:∀ B:Array Value,B.size=3→((B.setIfInBounds 0 (.slice A0 n0 c0)).setIfInBounds 1 (.slice A1 n1 c1)).setIfInBounds 2 (.slice A2 n2 c2)=L.toArray:=fun B hB=>by
       apply Array.ext
       ·simp[hB,L]
       ·intro j h1 h2
        simp[L] at h2
        match j,h2 with
        | 0,_=>simp[L,Array.getElem_setIfInBounds,hB]
        | 1,_=>simp[L,Array.getElem_setIfInBounds,hB]
        | 2,_=>simp[L]
      have:=hgen ((Array.range (3 * i.size)).map (z.cells[· % z.cells.size]!)) (by simp[hsz,k3])
      simp[Instr.fill,hsz,k3,Value.cells] at this ⊢
      exact this
     simp only[execOp,ho,z1a,run_buildSlice W t ti.elem 3 _ L.toArray i z hu hi hz1 (by rw[hsz]; omega) (by rw[hsz]; omega) (by rw[hsz] at *; exact hf'),z0o]
     rfl
    generalize hσ0:a1h (a1h (a1h ρ n0 A0) n1 A1) n2 A2=σ0 at *
    have hRS:∀ g,(a1h ρ n0 A0).R g→σ0.R g:=fun g h=>by subst hσ0; exact⟨.inl (.inl h.1),.inl (.inl h.2)⟩
    have hRS1:∀ g,(a1h (a1h ρ n0 A0) n1 A1).R g→σ0.R g:=fun g h=>by subst hσ0; exact⟨.inl h.1,.inl h.2⟩
    have hσf:∀ r,σ0 r=ρ r:=fun r=>by subst hσ0; rfl
    have hgrow:=hmg.grow (W':=W.alloc (.cells L.toArray ti.elem)) (σ:=σ0.with m.length (some ⟨W.heap.size,0,none⟩,3)) (new:=[.oarr ti.elem 3 [.rows (s6 n0 n1 n2) [s6 g0 g1 g2]]]) ((Below.refl _ _).alloc (z0q _) _) (fun r hr=>by simp only[d8] at hr; exact Env.with_ne _ _ (by simp at hr; omega)) (.with _ _ _ _ _) ?_
    ·refine OpTo.value hrun ⟨σ0.with m.length (some ⟨W.heap.size,0,none⟩,3),fun r y _ hy=>?_,.sl (Env.with_same _ _ _) (fun _=>by simp),?_⟩
     ·rw[Env.with_ne,hσf]
      ·exact hy
      ·intro e; subst e; rw[hf] at hy; cases hy
     ·simpa only[t8,t4] using hgrow
    ·simp only[d8]
     refine⟨fun k b hk hne'=>?_,fun k b ad c' hk ho' hx=>?_,fun k l b d ad c' x y hk hl _ _ _ _ _=>?_⟩
     ·have:k=0:=by have:=(z0c.1 hk).1; simpa using this
      subst this
      simp at hk
      subst hk
      refine⟨some ⟨W.heap.size,0,none⟩,3,L,Env.with_same _ _ _,?_,fun ad had hs'=>?_,by simp,fun j hj kk col hcol=>?_⟩
      ·have:=z3p (base:=0) (e:=ti.elem) (size:=1) W L.toArray 3 (z2j _) (by simp[maxLen]) (by simp[L])
       simpa using this
      ·simp only[z0a] at had
       subst had
       exact absurd (hmg.hS _ hs') (z1k _)
      ·have hk0:kk=0:=by have:=(z0c.1 hcol).1; simpa using this
       subst hk0
       simp at hcol
       subst hcol
       have key:∀ {n:Nat} {A:Option Addr} {cc:Nat} {g:Nat→Int} {σ1:Env},n≤cc→(∀ g,σ1.R g→σ0.R g)→(0 < n→∃ ad,A=some ad∧σ1.R ad.block∧∀ j,j < n→∀ k col,[Col.int .i64 g][k]?=some col→∃ v,W.cell? (ad.add (j * [Col.int .i64 g].length + k))=some v∧j4 σ1.R W col j v) →
         ∀(len:Nat→Nat) (gs:List (Nat→Nat→Int)) (j:Nat),len j=n→(∀ k h,gs[k]?=some h→k=0∧h j=g)→gs.length=1→j4 (σ0.with m.length (some ⟨W.heap.size,0,none⟩,3)).R (W.alloc (.cells L.toArray ti.elem)) (.rows len gs) j (.slice A n cc):=fun {n A cc g σ1} hnc hle hread len gs j e1 e2 e3=>by
        subst e1
        refine⟨A,cc,rfl,hnc,fun h0=>?_⟩
        obtain⟨ad,hA,hS,hcell⟩:=hread h0
        have hS0:=hle _ hS
        refine⟨ad,hA,hS0,fun i hi k h hg=>?_⟩
        obtain⟨rfl,e2⟩:=e2 k h hg
        obtain⟨u,hu',hd'⟩:=hcell i hi 0 _ rfl
        simp only[j4] at hd'
        subst hd'
        rw[e3,e2,z2e (w:=W) (Below.heap_alloc _ _ _ (by rw[block_add]; exact hmg.hS _ hS0.1))]
        simpa using hu'
       match j,hj with
       | 0,_=>exact⟨_,rfl,key hn0 hRS hr0 _ _ 0 rfl (fun k h hk=>by match k,hk with | 0,hk=>simp at hk; subst hk; exact⟨rfl,rfl⟩) rfl⟩
       | 1,_=>exact⟨_,rfl,key hn1 hRS1 hr1 _ _ 1 rfl (fun k h hk=>by match k,hk with | 0,hk=>simp at hk; subst hk; exact⟨rfl,rfl⟩) rfl⟩
       | 2,_=>exact⟨_,rfl,key hn2 (fun _ h=>h) hr2 _ _ 2 rfl (fun k h hk=>by match k,hk with | 0,hk=>simp at hk; subst hk; exact⟨rfl,rfl⟩) rfl⟩
     ·have:k=0:=by have:=(z0c.1 hk).1; simpa using this
      subst this
      simp only[z1i,Env.with_same,z0a,z0g] at hx
      rw[← hx.1]
      exact z0q _
     ·have h1:=(z0c.1 hk).1
      have h2:=(z0c.1 hl).1
      simp at h1 h2
      omega
  ·cases h
 ·rename_i ti N0 q0 n0 N1 q1 n1 N2 q2 n2 hti hvs
  split at h
  ·rename_i te _ k0 g0 h0 _ k1 g1 h1' _ k2 g2 h2' hte hq0 hq1 hq2
   cases hk:(Nat.beq ti.kind 3 && Nat.beq te.size 2 && Nat.beq te.zero.length 2 && !(Nat.beq q0 q1) && !(Nat.beq q0 q2) && !(Nat.beq q1 q2))
   ·rw[hk] at h; cases h
   ·simp only[hk,z0f,z0a] at h
    subst h
    simp only[z0d,z0x] at hk
    obtain⟨⟨⟨⟨⟨k1',k3⟩,k4⟩,d01⟩,d02⟩,d12⟩:=hk
    have d01:=z2u d01
    have d02:=z2u d02
    have d12:=z2u d12
    have k1':=z0b k1'
    have k3:=z0b k3
    have k4:=z0b k4
    have p0:n0=k0:=hp _ (by simp)
    have p1:n1=k1:=hp _ (by simp)
    have p2:n2=k2:=hp _ (by simp)
    subst p0; subst p1; subst p2
    have hcs:a0i (fun k=>bif Nat.blt k 3 then some (k * te.size,te.size) else none) (b3r te.zero 3) [(0,.agg [.i .i64 N0,.sl q0 n0]),(1,.agg [.i .i64 N1,.sl q1 n1]),(2,.agg [.i .i64 N2,.sl q2 n2])]=some [.i .i64 N0,.sl q0 n0,.i .i64 N1,.sl q1 n1,.i .i64 N2,.sl q2 n2]:=by
     match hz:te.zero,k4 with
     | [z0,z1],_=>rw[k3]; rfl
    obtain⟨us,hrun,hd,_⟩:=c2c W hT ho hG hs hc hti hvs hte k1' (by omega) (by omega) (by omega) hcs
    obtain⟨u,us,rfl,hd0,hd⟩:=hd.inv
    rw[hd0.i_inv] at hrun
    obtain⟨v0,us,rfl,hd0,hd⟩:=hd.inv
    obtain⟨u,us,rfl,hd1,hd⟩:=hd.inv
    rw[hd1.i_inv] at hrun
    obtain⟨v1,us,rfl,hd1,hd⟩:=hd.inv
    obtain⟨u,us,rfl,hd2,hd⟩:=hd.inv
    rw[hd2.i_inv] at hrun
    obtain⟨v2,us,rfl,hd2,hd⟩:=hd.inv
    obtain rfl:=hd.inv_nil
    obtain⟨A0,c0,hρ0,rfl,_⟩:=hd0.sl_inv
    obtain⟨A1,c1,hρ1,rfl,_⟩:=hd1.sl_inv
    obtain⟨A2,c2,hρ2,rfl,_⟩:=hd2.sl_inv
    have hq0:=p9 hq0
    have hq1:=p9 hq1
    have hq2:=p9 hq2
    obtain⟨hm0,hn0,hr0⟩:=hm.give hq0 hρ0
    obtain⟨hm1,hn1,hr1⟩:=hm0.give (q:=q1) (by rw[j7,if_neg (by omega)]; exact hq1) hρ1
    obtain⟨hmg,hn2,hr2⟩:=hm1.give (q:=q2) (by rw[j7,if_neg (by omega),j7,if_neg (by omega)]; exact hq2) hρ2
    generalize hL:[Value.int .i64 N0,.slice A0 n0 c0,.int .i64 N1,.slice A1 n1 c1,.int .i64 N2,.slice A2 n2 c2]=L at hrun
    generalize hσ0:a1h (a1h (a1h ρ n0 A0) n1 A1) n2 A2=σ0 at *
    have hRS:∀ g,(a1h ρ n0 A0).R g→σ0.R g:=fun g h=>by subst hσ0; exact⟨.inl (.inl h.1),.inl (.inl h.2)⟩
    have hRS1:∀ g,(a1h (a1h ρ n0 A0) n1 A1).R g→σ0.R g:=fun g h=>by subst hσ0; exact⟨.inl h.1,.inl h.2⟩
    have hσf:∀ r,σ0 r=ρ r:=fun r=>by subst hσ0; rfl
    have hgrow:=hmg.grow (W':=W.alloc (.cells L.toArray ti.elem)) (σ:=σ0.with m.length (some ⟨W.heap.size,0,none⟩,3)) (new:=[.oarr ti.elem 3 [.int .i64 (s6 N0 N1 N2),.rows (s6 n0 n1 n2) [s6 g0 g1 g2,s6 h0 h1' h2']]]) ((Below.refl _ _).alloc (z0q _) _) (fun r hr=>by simp only[d8] at hr; exact Env.with_ne _ _ (by simp at hr; omega)) (.with _ _ _ _ _) ?_
    ·refine OpTo.value hrun ⟨σ0.with m.length (some ⟨W.heap.size,0,none⟩,3),fun r y _ hy=>?_,.sl (Env.with_same _ _ _) (fun _=>by simp),?_⟩
     ·rw[Env.with_ne,hσf]
      ·exact hy
      ·intro e; subst e; rw[hf] at hy; cases hy
     ·simpa only[t8,t4] using hgrow
    ·simp only[d8]
     refine⟨fun k b hk hne'=>?_,fun k b ad c' hk ho' hx=>?_,fun k l b d ad c' x y hk hl _ _ _ _ _=>?_⟩
     ·have:k=0:=by have:=(z0c.1 hk).1; simpa using this
      subst this
      simp at hk
      subst hk
      refine⟨some ⟨W.heap.size,0,none⟩,3,L,Env.with_same _ _ _,?_,fun ad had hs'=>?_,by simp,fun j hj kk col hcol=>?_⟩
      ·have:=z3p (base:=0) (e:=ti.elem) (size:=2) W L.toArray 3 (z2j _) (by simp[maxLen]) (by simp[← hL])
       simpa using this
      ·simp only[z0a] at had
       subst had
       exact absurd (hmg.hS _ hs') (z1k _)
      ·have key:∀ {n:Nat} {A:Option Addr} {cc:Nat} {g h:Nat→Int} {σ1:Env},n≤cc→(∀ g,σ1.R g→σ0.R g)→(0 < n→∃ ad,A=some ad∧σ1.R ad.block∧∀ j,j < n→∀ k col,[Col.int .i64 g,.int .i64 h][k]?=some col→∃ v,W.cell? (ad.add (j * [Col.int .i64 g,.int .i64 h].length + k))=some v∧j4 σ1.R W col j v) →
         ∀(len:Nat→Nat) (gs hs:Nat→Nat→Int) (j:Nat),len j=n→gs j=g→hs j=h→j4 (σ0.with m.length (some ⟨W.heap.size,0,none⟩,3)).R (W.alloc (.cells L.toArray ti.elem)) (.rows len [gs,hs]) j (.slice A n cc):=fun {n A cc g h σ1} hnc hle hread len gs hs j e1 e2 e3=>by
        subst e1 e2 e3
        refine⟨A,cc,rfl,hnc,fun h0=>?_⟩
        obtain⟨ad,hA,hS,hcell⟩:=hread h0
        have hS0:=hle _ hS
        refine⟨ad,hA,hS0,fun i hi k f hg=>?_⟩
        rw[z2e (w:=W) (Below.heap_alloc _ _ _ (by rw[block_add]; exact hmg.hS _ hS0.1))]
        match k,hg with
        | 0,hg =>
         simp at hg; subst hg
         obtain⟨u,hu',hd'⟩:=hcell i hi 0 _ rfl
         simp only[j4] at hd'
         subst hd'
         exact hu'
        | 1,hg =>
         simp at hg; subst hg
         obtain⟨u,hu',hd'⟩:=hcell i hi 1 _ rfl
         simp only[j4] at hd'
         subst hd'
         exact hu'
       match j,hj,kk,hcol with
       | 0,_,0,hcol=>simp at hcol; subst hcol; exact⟨_,by rw[← hL]; rfl,rfl⟩
       | 1,_,0,hcol=>simp at hcol; subst hcol; exact⟨_,by rw[← hL]; rfl,rfl⟩
       | 2,_,0,hcol=>simp at hcol; subst hcol; exact⟨_,by rw[← hL]; rfl,rfl⟩
       | 0,_,1,hcol=>simp at hcol; subst hcol; exact⟨_,by rw[← hL]; rfl,key hn0 hRS hr0 _ _ _ 0 rfl rfl rfl⟩
       | 1,_,1,hcol=>simp at hcol; subst hcol; exact⟨_,by rw[← hL]; rfl,key hn1 hRS1 hr1 _ _ _ 1 rfl rfl rfl⟩
       | 2,_,1,hcol=>simp at hcol; subst hcol; exact⟨_,by rw[← hL]; rfl,key hn2 (fun _ h=>h) hr2 _ _ _ 2 rfl rfl rfl⟩
     ·have:k=0:=by have:=(z0c.1 hk).1; simpa using this
      subst this
      simp only[z1i,Env.with_same,z0a,z0g] at hx
      rw[← hx.1]
      exact z0q _
     ·have h1:=(z0c.1 hk).1
      have h2:=(z0c.1 hl).1
      simp at h1 h2
      omega
  ·cases h
 ·cases h
theorem MR.take {r ix e e' n:Nat} {lk:Option Nat} {len:Nat→Nat} {gs:List (Nat→Nat→Int)} (hm:MR K w0 W ρ m) (hr:m[r]?=some (.orows e e' n none lk len gs)) (hix:ix < n) :
  ∃ σ:Env,(∀ s y,ρ s=some y→σ s=some y)∧MR K w0 W σ (i4 m r (.orows e e' n (some ix) (some m.length) len gs) ++ [.oarr e' (len ix) (a01 gs ix)]):=by
 have hf:ρ m.length=none:=by
  cases hx:ρ m.length with
  | none=>rfl
  | some y=>exact absurd (hm.dom _ (by rw[hx]; simp)) (z1k _)
 have hrm:=(z0c.1 hr).1
 by_cases hρr:ρ r=none
 ·refine⟨ρ,fun _ _ h=>h,?_⟩
  have h1:MR K w0 W ρ (i4 m r (.orows e e' n (some ix) (some m.length) len gs)):=by
   have mget:∀(s:Nat) (l:MBlk),(i4 m r (.orows e e' n (some ix) (some m.length) len gs))[s]?=some l→s=r∨m[s]?=some l:=fun s l hl=>by
    rw[j7] at hl
    by_cases es:s=r
    ·exact .inl es
    ·rw[if_neg (by omega)] at hl; exact .inr hl
   refine⟨hm.sub,hm.rows,hm.hS,hm.below,fun s l hl hs'=>?_,fun s hs'=>by rw[d8]; exact hm.dom s hs',fun s g hx=>by rw[d8]; exact hm.xlt s g hx,hm.xsep,fun s g s2 l a c hx hl ho hs2=>?_,fun s1 s2 k1 k2 a1 a2 c1 c2 hk1 hk2 ho1 ho2 hr1 hr2 hb=>?_⟩
   ·rcases mget s l hl with rfl | h
    ·exact absurd hρr hs'
    ·exact hm.blk s l h hs'
   ·rcases mget s2 l hl with rfl | h
    ·rw[hρr] at hs2; cases hs2
    ·exact hm.xown s g s2 l a c hx h ho hs2
   ·rcases mget s1 k1 hk1 with rfl | h1
    ·rw[hρr] at hr1; cases hr1
    ·rcases mget s2 k2 hk2 with rfl | h2
     ·rw[hρr] at hr2; cases hr2
     ·exact hm.sep s1 s2 k1 k2 a1 a2 c1 c2 h1 h2 ho1 ho2 hr1 hr2 hb
  have:=h1.grow (W':=W) (σ:=ρ) (new:=[.oarr e' (len ix) (a01 gs ix)]) (Below.refl _ _) (fun _ _=>rfl) (.refl _ _ _) ?_
  ·exact this
  ·rw[d8]
   refine⟨fun k b hk hne=>?_,fun k b a c hk ho hx=>?_,fun k l b d a c x y hk hl _ _ _ _ _=>?_⟩
   ·have:k=0:=by have:=(z0c.1 hk).1; simpa using this
    subst this
    exact absurd hf hne
   ·have:k=0:=by have:=(z0c.1 hk).1; simpa using this
    subst this
    rw[z1i,hf] at hx
    cases hx
   ·have h1:=(z0c.1 hk).1
    have h2:=(z0c.1 hl).1
    simp at h1 h2
    omega
 obtain⟨A0,c0,vs,hρ,h2,h3,h4,h5,h6,h7⟩:=hm.blk r _ hr hρr
 obtain⟨B,d,us,e1,e2,e3,e4⟩:=h5 ix hix (by simp)
 let σ:Env:=⟨fun s=>if s=m.length then some (B,d) else ρ s,ρ.S,ρ.T,fun s g=>ρ.X s g∧¬ (s=r∧∃ bb,B=some bb∧bb.block=g)⟩
 have hσ:∀ s,s≠m.length→σ s=ρ s:=fun s hs=>if_neg hs
 have hσb:σ m.length=some (B,d):=if_pos rfl
 have hle:∀ s y,ρ s=some y→σ s=some y:=fun s y hy=>by
  rw[hσ s (fun e=>by rw[e,hf] at hy; cases hy)]; exact hy
 have hXB:∀ bb,B=some bb→ρ.X r bb.block:=e3
 have mget:∀(s:Nat) (l:MBlk),(i4 m r (.orows e e' n (some ix) (some m.length) len gs) ++ [.oarr e' (len ix) (a01 gs ix)])[s]?=some l→(s=m.length∧l=.oarr e' (len ix) (a01 gs ix))∨(s=r∧l=.orows e e' n (some ix) (some m.length) len gs)∨(s≠r∧s < m.length∧m[s]?=some l):=fun s l hl=>by
  by_cases hsl:s < m.length
  ·rw[z0t (by rw[d8]; exact hsl),j7] at hl
   by_cases es:s=r
   ·subst es
    rw[if_pos ⟨rfl,hrm⟩] at hl
    exact .inr (.inl ⟨rfl,by simpa using hl.symm⟩)
   ·rw[if_neg (by omega)] at hl
    exact .inr (.inr ⟨es,hsl,hl⟩)
  ·rw[z1c (by rw[d8]; omega),d8] at hl
   have:s - m.length=0:=by have:=(z0c.1 hl).1; simpa using this
   rw[this] at hl
   exact .inl ⟨by omega,by simpa using hl.symm⟩
 have mown:∀(s:Nat) (l:MBlk),(i4 m r (.orows e e' n (some ix) (some m.length) len gs) ++ [.oarr e' (len ix) (a01 gs ix)])[s]?=some l→l7 l=true→s≠m.length→∃ l0,m[s]?=some l0∧l7 l0=true:=fun s l hl ho hs=>by
  rcases mget s l hl with⟨es,_⟩ | ⟨rfl,_⟩ | ⟨_,_,hl⟩
  ·exact absurd es hs
  ·exact⟨_,hr,rfl⟩
  ·exact⟨l,hl,ho⟩
 have hlen1:(a01 gs ix).length=gs.length:=a4b gs ix
 refine⟨σ,hle,?_⟩
 refine⟨hm.sub,hm.rows,hm.hS,hm.below,fun s l hl hs'=>?_,fun s hs'=>?_,fun s g hx=>?_,fun s1 s2 g hx1 hx2=>hm.xsep s1 s2 g hx1.1 hx2.1,fun s g s2 l ad cc hx hl ho2 hs2=>?_,?_⟩
 ·rcases mget s l hl with⟨rfl,rfl⟩ | ⟨es,rfl⟩ | ⟨es,hsl,hl⟩
  ·refine⟨B,d,us,hσb,by rw[hlen1]; exact e2,fun bb hb hS=>(hm.xlt r _ (hXB bb hb)).2.1 hS,by rw[hlen1]; exact h4,fun j hj k col hcol=>?_⟩
   obtain⟨g,hg,rfl⟩:=b6j gs ix k col hcol
   exact⟨_,by rw[hlen1]; exact e4 j hj k g hg,rfl⟩
  ·subst es
   refine⟨A0,c0,vs,hle _ _ hρ,h2,h3,h4,fun j hj hh=>?_,fun j j' B1 l1 d1 B2 l2 d2 hj hj' hh hh' hv hv' hb=>h6 j j' B1 l1 d1 B2 l2 d2 hj hj' (by simp) (by simp) hv hv' hb,fun j q hj hq=>?_⟩
   rotate_left
   ·simp only[z0a] at hj hq
    subst hj hq
    refine⟨B,d,hσb,e1,fun h0 eB=>?_⟩
    rcases e2.2 with⟨_,h0'⟩ | ⟨g,cap,cur,hv,_⟩
    ·omega
    ·rw[eB] at hv; simp at hv
   obtain⟨B1,d1,us1,f1,f2,f3,f4⟩:=h5 j hj (by simp)
   refine⟨B1,d1,us1,f1,f2,fun bb hb=>⟨f3 bb hb,fun⟨_,b2,hb2,eb⟩=>?_⟩,f4⟩
   subst hb hb2
   exact hh (by rw[h6 j ix bb _ _ b2 _ _ hj hix (by simp) (by simp) f1 e1 eb.symm])
  ·have hs2:ρ s≠none:=by rw[← hσ s (by omega)]; exact hs'
   have h0:=hm.blk s l hl hs2
   exact h0.mono hle (fun _ h=>h) (fun _ h=>h) (fun ad cc ho ha=>(t9 h0 ho ha).1) (fun g hx=>⟨hx,fun⟨es',_⟩=>es es'⟩)
 ·simp only[z1b,d8,z2i]
  by_cases es:s=m.length
  ·omega
  ·have:=hm.dom s (by rw[← hσ s es]; exact hs')
   omega
 ·obtain⟨x1,x2,x3⟩:=hm.xlt s g hx.1
  exact⟨by simp only[z1b,d8]; omega,x2,x3⟩
 ·by_cases es:s2=m.length
  ·subst es
   rw[hσb] at hs2
   simp only[z0a,z0g] at hs2
   intro eg
   have hXr:=hXB ad hs2.1
   rw[eg] at hXr
   exact hx.2 ⟨hm.xsep s r g hx.1 hXr,ad,hs2.1,eg⟩
  ·obtain⟨l0,hl0,p0⟩:=mown s2 l hl ho2 es
   rw[hσ s2 es] at hs2
   exact hm.xown s g s2 l0 ad cc hx.1 hl0 p0 hs2
 ·intro s1 s2 k1 k2 a1 a2 c1 c2 hk1 hk2 ho1 ho2 hr1 hr2 hb
  by_cases es1:s1=m.length <;> by_cases es2:s2=m.length
  ·rw[es1,es2]
  ·subst es1
   rw[hσb] at hr1
   simp only[z0a,z0g] at hr1
   obtain⟨l0,hl0,p0⟩:=mown s2 k2 hk2 ho2 es2
   rw[hσ s2 es2] at hr2
   exact absurd hb.symm (hm.xown r _ s2 l0 a2 c2 (hXB a1 hr1.1) hl0 p0 hr2)
  ·subst es2
   rw[hσb] at hr2
   simp only[z0a,z0g] at hr2
   obtain⟨l0,hl0,p0⟩:=mown s1 k1 hk1 ho1 es1
   rw[hσ s1 es1] at hr1
   exact absurd hb (hm.xown r _ s1 l0 a1 c1 (hXB a2 hr2.1) hl0 p0 hr1)
  ·obtain⟨l1,hl1,p1⟩:=mown s1 k1 hk1 ho1 es1
   obtain⟨l2,hl2,p2⟩:=mown s2 k2 hk2 ho2 es2
   rw[hσ s1 es1] at hr1
   rw[hσ s2 es2] at hr2
   exact hm.sep s1 s2 l1 l2 a1 a2 c1 c2 hl1 hl2 p1 p2 hr1 hr2 hb
theorem MR.freshB {r off:Nat} {b:MBlk} {cs:List SV} (hm:MR K w0 W ρ m) (hr:m[r]?=some (.cells cs)) (hc:cs[off]?=some .nilsl) (hb0:∀(σ:Env) (s:Nat),σ s=some (none,0)→BR σ W s b) :
  ∃ σ:Env,(∀ s y,ρ s=some y→σ s=some y)∧MR K w0 W σ (i4 m r (.cells (i4 cs off (.sl m.length 0))) ++ [b]):=by
 have hrm:=(z0c.1 hr).1
 have hf:ρ m.length=none:=by
  cases hx:ρ m.length with
  | none=>rfl
  | some y=>exact absurd (hm.dom _ (by rw[hx]; simp)) (z1k _)
 have hg:=hm.grow (W':=W) (σ:=ρ.with m.length (none,0)) (new:=[b]) (Below.refl _ _) (fun s hs=>Env.with_ne _ _ (by simp at hs; omega)) (.with _ _ _ _ _) ⟨fun k b' hk _=>by
   have:k=0:=by have:=(z0c.1 hk).1; simpa using this
   subst this
   simp at hk
   subst hk
   exact hb0 _ _ (Env.with_same _ _ _),fun k b a c hk _ hx=>by
   have:k=0:=by have:=(z0c.1 hk).1; simpa using this
   subst this
   rw[z1i,Env.with_same] at hx
   simp at hx,fun k l b d a c x y hk hl _ _ _ _ _=>by
   have h1:=(z0c.1 hk).1
   have h2:=(z0c.1 hl).1
   simp at h1 h2
   omega⟩
 refine⟨ρ.with m.length (none,0),Env.with_le hf,?_⟩
 have hap:i4 m r (.cells (i4 cs off (.sl m.length 0))) ++ [b]=i4 (m ++ [b]) r (.cells (i4 cs off (.sl m.length 0))):=by
  apply List.ext_getElem?
  intro i
  rw[j7]
  by_cases hi:i < m.length
  ·rw[z0t (by rw[d8]; exact hi),j7,z0t hi]
   by_cases e:i=r
   ·rw[if_pos ⟨e,hrm⟩,if_pos ⟨e,by simp; omega⟩]
   ·rw[if_neg (by omega),if_neg (by omega)]
  ·rw[z1c (by rw[d8]; omega),d8,if_neg (by omega),z1c (by omega)]
 rw[hap]
 by_cases hρr:(ρ.with m.length (none,0)) r=none
 ·have hg2:=hg
  have mget:∀(s:Nat) (l:MBlk),(i4 (m ++ [b]) r (.cells (i4 cs off (.sl m.length 0))))[s]?=some l→s=r∨(m ++ [b])[s]?=some l:=fun s l hl=>by
   rw[j7] at hl
   by_cases es:s=r
   ·exact .inl es
   ·rw[if_neg (by omega)] at hl; exact .inr hl
  refine⟨hg.sub,hg.rows,hg.hS,hg.below,fun s l hl hs'=>?_,fun s hs'=>by rw[d8]; exact hg.dom s hs',fun s g hx=>by rw[d8]; exact hg.xlt s g hx,hg.xsep,fun s g s2 l a c hx hl ho hs2=>?_,fun s1 s2 k1 k2 a1 a2 c1 c2 hk1 hk2 ho1 ho2 hr1 hr2 hb=>?_⟩
  ·rcases mget s l hl with rfl | h
   ·exact absurd hρr hs'
   ·exact hg.blk s l h hs'
  ·rcases mget s2 l hl with rfl | h
   ·rw[hρr] at hs2; cases hs2
   ·exact hg.xown s g s2 l a c hx h ho hs2
  ·rcases mget s1 k1 hk1 with rfl | h1
   ·rw[hρr] at hr1; cases hr1
   ·rcases mget s2 k2 hk2 with rfl | h2
    ·rw[hρr] at hr2; cases hr2
    ·exact hg.sep s1 s2 k1 k2 a1 a2 c1 c2 h1 h2 ho1 ho2 hr1 hr2 hb
 ·have hr':(m ++ [b])[r]?=some (.cells cs):=by rw[z0t hrm]; exact hr
  refine hg.keep hr' rfl hρr (row:=none) (World.grownBy.refl W _) (fun g e=>by cases e) ?_
  obtain⟨g,t,vs,c,h1,h2,h3,h4⟩:=hg.blk r _ hr' hρr
  refine⟨g,t,vs,c,h1,h2,h3,by rw[d8]; exact h4.1,fun j x v hx hv=>?_⟩
  rw[j7] at hx
  by_cases e:j=off
  ·subst e
   rw[if_pos ⟨rfl,(z0c.1 hc).1⟩] at hx
   simp only[z0a] at hx
   subst hx
   have:=h4.2 j _ v hc hv
   cases this
   exact .sl (Env.with_same _ _ _) (fun h=>absurd h (z1k _))
  ·rw[if_neg (by omega)] at hx
   exact h4.2 j x v hx hv
theorem MR.fresh {r off e w:Nat} {cs:List SV} (hm:MR K w0 W ρ m) (hr:m[r]?=some (.cells cs)) (hc:cs[off]?=some .nilsl) (hw:0 < w) :
  ∃ σ:Env,(∀ s y,ρ s=some y→σ s=some y)∧MR K w0 W σ (i4 m r (.cells (i4 cs off (.sl m.length 0))) ++ [.oarr e 0 (a2f w .any)]):=by
 have hcp:(a2f w Col.any).length=w:=by
  clear hw
  induction w with
  | zero=>rfl
  | succ n ih=>simp[a2f,ih]
 exact hm.freshB hr hc fun σ s hs=>⟨none,0,[],hs,⟨by simp,.inl ⟨rfl,rfl⟩⟩,fun a ha=>(by cases ha),by rw[hcp]; exact hw,fun j hj=>absurd hj (z1l _)⟩
theorem MR.freshR {r off e e':Nat} {cs:List SV} (hm:MR K w0 W ρ m) (hr:m[r]?=some (.cells cs)) (hc:cs[off]?=some .nilsl) :
  ∃ σ:Env,(∀ s y,ρ s=some y→σ s=some y)∧MR K w0 W σ (i4 m r (.cells (i4 cs off (.sl m.length 0))) ++ [.orows e e' 0 none none (fun _=>0) [fun _ _=>0]]):=
 hm.freshB hr hc fun σ s hs=>⟨none,0,[],hs,⟨by simp,.inl ⟨rfl,rfl⟩⟩,fun a ha=>(by cases ha),z3s,fun j hj=>absurd hj (z1l _),fun j j' B l d B' l' d' hj=>absurd hj (z1l _),fun j q hj=>(by cases hj)⟩
def c25 (ρ:Env) (g0:Nat):Env:=⟨ρ.f,fun g=>ρ.S g∨g=g0,ρ.T,ρ.X⟩
theorem MR.freezeMap {q:Nat} {f:Int→Int→Bool} {g0 c:Nat} (hm:MR K w0 W ρ m) (hq:m[q]?=some (.mapp f)) (hρ:ρ q=some (some ⟨g0,0,none⟩,c)) :
  MR K w0 W (c25 ρ g0) (i4 m q (.fmapp f))∧∃ es clock,W.heap[g0]?=some (.map es clock)∧a85 es clock f:=by
 have hqm:q < m.length:=(z0c.1 hq).1
 have hb:=hm.blk q _ hq (by rw[hρ]; simp)
 obtain⟨hnS,hlt⟩:=t9 hb rfl hρ
 obtain⟨g,es,clock,c',h1,h2,h3,h4⟩:=hb
 rw[hρ] at h1
 simp only[z0a,z0g,z2a,and_true] at h1
 obtain⟨rfl,rfl⟩:=h1
 have mget:∀(s:Nat) (l:MBlk),(i4 m q (.fmapp f))[s]?=some l→(s=q∧l=.fmapp f)∨(s≠q∧m[s]?=some l):=fun s l hl=>by
  rw[j7] at hl
  by_cases e:s=q
  ·subst e
   rw[if_pos ⟨rfl,hqm⟩] at hl
   exact .inl ⟨rfl,by simpa using hl.symm⟩
  ·rw[if_neg (by omega)] at hl
   exact .inr ⟨e,hl⟩
 have mown:∀(s:Nat) (l:MBlk),(i4 m q (.fmapp f))[s]?=some l→l7 l=true→s≠q∧m[s]?=some l:=fun s l hl ho=>by
  rcases mget s l hl with⟨_,rfl⟩ | h
  ·simp[l7] at ho
  ·exact h
 refine⟨⟨fun g hg=>.inl (hm.sub g hg),fun g' hg=>?_,fun g' hg=>?_,hm.below,fun s l hl hs'=>?_,fun s hs'=>by rw[d8]; exact hm.dom s hs',fun s g' hx=>?_,hm.xsep,fun s g' s2 l a c' hx hl ho hs2=>hm.xown s g' s2 l a c' hx (mown s2 l hl ho).2 ho hs2,fun s1 s2 k1 k2 a1 a2 c1 c2 hk1 hk2 ho1 ho2 hr1 hr2 hb=>hm.sep s1 s2 k1 k2 a1 a2 c1 c2 (mown s1 k1 hk1 ho1).2 (mown s2 k2 hk2 ho2).2 ho1 ho2 hr1 hr2 hb⟩,es,clock,h3,h4⟩
 ·rcases hg.1 with h | rfl
  ·exact hm.rows g' ⟨h,hg.2⟩
  ·exact .inr fun hk=>hnS (hm.sub _ hk)
 ·rcases hg with h | rfl
  ·exact hm.hS g' h
  ·exact hlt
 ·rcases mget s l hl with⟨rfl,rfl⟩ | ⟨e,hl⟩
  ·exact⟨g0,es,clock,c,hρ,.inr rfl,h3,h4⟩
  ·have h0:=hm.blk s l hl hs'
   refine h0.mono (fun _ _ h=>h) (fun _ h=>.inl h) (fun _ h=>h) (fun a c' ho ha hbad=>?_) (fun g h=>h)
   rcases hbad with h | eb
   ·exact(t9 h0 ho ha).1 h
   ·exact e (hm.sep s q l _ a ⟨g0,0,none⟩ c' c hl hq ho rfl ha hρ eb)
 ·obtain⟨x1,x2,x3⟩:=hm.xlt s g' hx
  refine⟨by rw[d8]; exact x1,fun hs=>?_,x3⟩
  rcases hs with h | rfl
  ·exact x2 h
  ·exact hm.xown s g' q _ ⟨g',0,none⟩ c hx hq rfl hρ rfl
theorem MR.freezeArr {q e n:Nat} {cols:List Col} (hm:MR K w0 W ρ m) (hq:m[q]?=some (.oarr e n cols)) :
  ∃ σ:Env,(∀ s y,ρ s=some y→σ s=some y)∧MR K w0 W σ (i4 m q (.arr n cols)):=by
 have hqm:q < m.length:=(z0c.1 hq).1
 have mget:∀(s:Nat) (l:MBlk),(i4 m q (.arr n cols))[s]?=some l→(s=q∧l=.arr n cols)∨(s≠q∧m[s]?=some l):=fun s l hl=>by
  rw[j7] at hl
  by_cases e:s=q
  ·subst e
   rw[if_pos ⟨rfl,hqm⟩] at hl
   exact .inl ⟨rfl,by simpa using hl.symm⟩
  ·rw[if_neg (by omega)] at hl
   exact .inr ⟨e,hl⟩
 have mown:∀(s:Nat) (l:MBlk),(i4 m q (.arr n cols))[s]?=some l→l7 l=true→s≠q∧m[s]?=some l:=fun s l hl ho=>by
  rcases mget s l hl with⟨_,rfl⟩ | h
  ·simp[l7] at ho
  ·exact h
 have none_case:(∀ a c,ρ q=some (some a,c)→False)→∃ σ:Env,(∀ s y,ρ s=some y→σ s=some y)∧MR K w0 W σ (i4 m q (.arr n cols)):=fun hno=>by
  refine⟨ρ,fun _ _ h=>h,hm.sub,hm.rows,hm.hS,hm.below,fun s l hl hs'=>?_,fun s hs'=>by rw[d8]; exact hm.dom s hs',fun s g hx=>by rw[d8]; exact hm.xlt s g hx,hm.xsep,fun s g' s2 l a c' hx hl ho hs2=>hm.xown s g' s2 l a c' hx (mown s2 l hl ho).2 ho hs2,fun s1 s2 k1 k2 a1 a2 c1 c2 hk1 hk2 ho1 ho2 hr1 hr2 hb=>hm.sep s1 s2 k1 k2 a1 a2 c1 c2 (mown s1 k1 hk1 ho1).2 (mown s2 k2 hk2 ho2).2 ho1 ho2 hr1 hr2 hb⟩
  rcases mget s l hl with⟨rfl,rfl⟩ | ⟨_,hl⟩
  ·have hb:=hm.blk s _ hq hs'
   obtain⟨A,c,vs,h1,h2,_⟩:=id hb
   refine⟨A,c,h1,?_,fun hn=>?_⟩
   ·rcases h2.2 with⟨_,h0⟩ | ⟨g,cap,cur,h,_,_,hnc,_⟩
    ·omega
    ·simp only[z0y] at h; omega
   ·obtain⟨a,ha,_⟩:=b9l hb rfl h1 hn
    exact(hno a c (by rw[h1,ha])).elim
  ·exact hm.blk s l hl hs'
 cases hρ:ρ q with
 | none=>exact none_case fun a c h=>by rw[hρ] at h; cases h
 | some y =>
  obtain⟨A,c⟩:=y
  cases A with
  | none=>exact none_case fun a c h=>by rw[hρ] at h; simp at h
  | some a =>
   have hb:=hm.blk q _ hq (by rw[hρ]; simp)
   obtain⟨hnS,hlt⟩:=t9 hb rfl hρ
   refine⟨c25 ρ a.block,fun _ _ h=>h,fun g hg=>.inl (hm.sub g hg),fun g' hg=>?_,fun g' hg=>?_,hm.below,fun s l hl hs'=>?_,fun s hs'=>by rw[d8]; exact hm.dom s hs',fun s g' hx=>?_,hm.xsep,fun s g' s2 l a c' hx hl ho hs2=>hm.xown s g' s2 l a c' hx (mown s2 l hl ho).2 ho hs2,fun s1 s2 k1 k2 a1 a2 c1 c2 hk1 hk2 ho1 ho2 hr1 hr2 hb=>hm.sep s1 s2 k1 k2 a1 a2 c1 c2 (mown s1 k1 hk1 ho1).2 (mown s2 k2 hk2 ho2).2 ho1 ho2 hr1 hr2 hb⟩
   ·rcases hg.1 with h | rfl
    ·exact hm.rows g' ⟨h,hg.2⟩
    ·exact .inr fun hk=>hnS (hm.sub _ hk)
   ·rcases hg with h | rfl
    ·exact hm.hS g' h
    ·exact hlt
   ·rcases mget s l hl with⟨rfl,rfl⟩ | ⟨es,hl⟩
    ·obtain⟨A,c',vs,h1,h2,_⟩:=id hb
     rw[hρ] at h1
     simp only[z0a,z0g] at h1
     obtain⟨rfl,rfl⟩:=h1
     refine⟨some a,c,hρ,?_,fun hn=>?_⟩
     ·rcases h2.2 with⟨_,h0⟩ | ⟨g,cap,cur,h,_,_,hnc,_⟩
      ·omega
      ·simp only[z0y] at h; omega
     ·obtain⟨a',ha,h3⟩:=b9l hb rfl hρ hn
      simp only[z0a] at ha
      subst ha
      refine⟨a,rfl,.inr rfl,fun j hj k col hk=>?_⟩
      obtain⟨v,hv,hd⟩:=h3 j hj k col hk
      exact⟨v,hv,s7 hd (fun g hg=>⟨.inl hg.1,hg.2⟩) (fun _ _=>rfl)⟩
    ·have h0:=hm.blk s l hl hs'
     refine h0.mono (fun _ _ h=>h) (fun _ h=>.inl h) (fun _ h=>h) (fun a' c' ho ha hbad=>?_) (fun g h=>h)
     rcases hbad with h | eb
     ·exact(t9 h0 ho ha).1 h
     ·exact es (hm.sep s q l _ a' a c' c hl hq ho rfl ha hρ eb)
   ·obtain⟨x1,x2,x3⟩:=hm.xlt s g' hx
    refine⟨by rw[d8]; exact x1,fun hs=>?_,x3⟩
    rcases hs with h | rfl
    ·exact x2 h
    ·exact hm.xown s _ q _ a c hx hq rfl hρ rfl
theorem c7t {t:Nat} {x:Operand} {b:BRes} (hG:GlobOk T ρ) (hm:MR K w0 W ρ m) (hf:ρ m.length=none) (ho:o.op=.range t x) (hs:OpsOk ρ sl a [x]) (h:a0x T sl m [] (.range t x)=some b) (hT:TabOk P T) :
  OpTo P a o W (a2y K w0 ρ m b):=by
 have hc:sat a []:=fun q w hq=>by cases hq
 simp only[a0x] at h
 split at h
 ·rename_i r hx
  cases hmp:a2c T t
  ·rw[hmp] at h; cases h
  simp only[hmp,z0f] at h
  obtain⟨kt,et,hu,hk,_⟩:=a60 hT hmp
  obtain⟨g,c,hρ,ex⟩:=(f7 hG hx hs hc).mp_inv
  have fin:∀ {ρ1:Env} {m1:List MBlk} {f:Int→Int→Bool} {es:Array MapEntry} {clock:Nat},MR K w0 W ρ1 m1→m1.length=m.length→(∀ s,ρ1 s=ρ s)→ρ1.S g→W.heap[g]?=some (.map es clock)→a85 es clock f →
    (execOp a.eval o).run P W=.ok (.value (.pointer (some ⟨W.heap.size,0,none⟩))) (W.alloc (.mapIter (some g) clock #[] clock))∧∃ σ:Env,(∀ r y,ρ r=some y→σ r=some y)∧Den σ (.ptr m.length 0) (.pointer (some ⟨W.heap.size,0,none⟩))∧MR K w0 (W.alloc (.mapIter (some g) clock #[] clock)) σ (m1 ++ [.iterp f none]):=fun {ρ1 m1 f es clock} hm1 hml hf1 hSg hb his=>by
   refine⟨?_,?_⟩
   ·simp only[execOp,ho,ex,z1a,run_range_map W t kt et g es clock hu hb,z0o]
    rfl
   ·have hgrow:=hm1.grow (W':=W.alloc (.mapIter (some g) clock #[] clock)) (σ:=ρ1.with m.length (some ⟨W.heap.size,0,none⟩,0)) (new:=[.iterp f none]) ((Below.refl _ _).alloc (z0q _) _) (fun r hr=>Env.with_ne _ _ (by simp at hr; omega)) (.with _ _ _ _ _) ?_
    ·refine⟨_,fun r y hy=>?_,?_,hgrow⟩
     ·rw[Env.with_ne]
      ·rw[hf1]; exact hy
      ·intro e; subst e; rw[hf] at hy; cases hy
     ·have:=Den.ptr (ρ:=ρ1.with m.length (some ⟨W.heap.size,0,none⟩,0)) (off:=0) (Env.with_same ρ1 m.length _)
      simpa [Addr.add] using this
    ·rw[hml]
     refine⟨fun k b hk hne'=>?_,fun k b ad c' hk ho' hx=>?_,fun k l b d ad c' x y hk hl _ _ _ _ _=>?_⟩
     ·have:k=0:=by have:=(z0c.1 hk).1; simpa using this
      subst this
      simp at hk
      subst hk
      refine⟨W.heap.size,g,clock,#[],clock,es,clock,0,Env.with_same _ _ _,fun hs=>absurd (hm1.hS _ hs) (z1k _),(MapKept.heap_alloc W _).1,hSg,((MapKept.heap_alloc W _).2 g (hm1.hS _ hSg)).trans hb,⟨his.1,his.1.1,z0q _,z0q _,fun x hx=>?_,his.2.2⟩,fun p hp=>(by cases hp)⟩
      obtain⟨n,m,q1,q2,q3⟩:=his.2.1 x hx
      exact⟨n,m,q1,q2,by simp[q3]⟩
     ·have:k=0:=by have:=(z0c.1 hk).1; simpa using this
      subst this
      simp only[z1i,Env.with_same,z0a,z0g] at hx
      rw[← hx.1]
      exact z0q _
     ·have h1:=(z0c.1 hk).1
      have h2:=(z0c.1 hl).1
      simp at h1 h2
      omega
  split at h
  ·rename_i f hr
   simp only[z0a] at h
   subst h
   obtain⟨hmf,es,clock,hb,his⟩:=hm.freezeMap (p9 hr) hρ
   obtain⟨hrun,σ,s1,s2,s3⟩:=fin hmf (by rw[d8]) (fun _=>rfl) (.inr rfl) hb his
   refine OpTo.value hrun ⟨σ,fun r y _ hy=>s1 r y hy,s2,?_⟩
   simpa only[t8,t4] using s3
  ·rename_i f hr
   simp only[z0a] at h
   subst h
   obtain⟨g',es,clock,c',h1,hS,hb,his⟩:=hm.blk r _ (p9 hr) (by rw[hρ]; simp)
   rw[hρ] at h1
   simp only[z0a,z0g,z2a,and_true] at h1
   obtain⟨rfl,rfl⟩:=h1
   obtain⟨hrun,σ,s1,s2,s3⟩:=fin hm rfl (fun _=>rfl) hS hb his
   refine OpTo.value hrun ⟨σ,fun r y _ hy=>s1 r y hy,s2,?_⟩
   simpa only[t8,t4] using s3
  ·cases h
 ·cases h
theorem c2a:∀ {l:List MapEntry},l.Pairwise (fun x y=>x.key≠y.key)→∀ {x y:MapEntry},x∈l→y∈l→x.key=y.key→x=y
 | [],_,_,_,hx,_,_=>by simp at hx
 | a :: r,hp,x,y,hx,hy,h=>by
  obtain⟨h1,h2⟩:=List.pairwise_cons.1 hp
  rcases z0s.1 hx with ex | hx'
  ·rcases z0s.1 hy with ey | hy'
   ·rw[ex,ey]
   ·exact absurd (ex ▸ h) (h1 y hy')
  ·rcases z0s.1 hy with ey | hy'
   ·exact absurd (ey ▸ h).symm (h1 x hx')
   ·exact c2a h2 hx' hy' h
theorem c6o {x:Operand} {r:Nat} {left:Int→Int→Bool} {cur:Option (Int × Int)} (hm:MR K w0 W ρ m) (ho:o.op=.next x false) (hx:Den ρ (.ptr r 0) (a.eval x)) (hr:m[r]?=some (.iterp left cur)) :
  ((∀ p q,left p q=false)∧(execOp a.eval o).run P W=.ok (.value (.tuple #[.bool false])) W) ∨
  ∃ p q W',left p q=true∧(execOp a.eval o).run P W=.ok (.value (.tuple #[.bool true,u7 p q,.bool true])) W'∧MR K w0 W' ρ (i4 m r (.iterp (fun x y=>left x y && !(x == p && y == q)) (some (p,q)))):=by
 obtain⟨b,kc,hρ,ex⟩:=hx.ptr_inv
 obtain⟨g,bm,since,seen,c0,es,clock,c',h1,hnS,h3,hSb,h5,h6,h7⟩:=hm.blk r _ hr (by rw[hρ]; simp)
 have h1':=h1
 rw[hρ] at h1
 simp only[z0a,z0g] at h1
 obtain⟨rfl,rfl⟩:=h1
 obtain⟨hst,hold,hsc,hsk,hall,hex⟩:=h6
 have e0:(Addr.add ⟨g,0,none⟩ 0)=⟨g,0,none⟩:=by simp[Addr.add]
 rw[e0] at ex
 rcases run_next_at (P:=P) W o.type g bm since c0 seen es clock h3 h5 hold hsc with⟨hl0,hrun⟩ | ⟨e,he,w1,hal,hrun⟩
 ·refine .inl ⟨fun p q=>?_,by simp only[execOp,ho,ex,z1a,hrun,z0o]; rfl⟩
  cases hk:left p q
  ·rfl
  ·obtain⟨x,hx,hkx⟩:=hex p q hk
   obtain⟨n',m',k1,_,k3⟩:=hall x hx
   rw[hkx] at k1
   simp at k1
   obtain⟨rfl,rfl⟩:=k1
   rw[hk,all_seen es seen hl0 x hx] at k3
   cases k3
 ·obtain⟨hem,hes⟩:=mem_left he
  obtain⟨p,q,k1,k2,k3⟩:=hall e hem
  rw[k1,k2] at hrun
  have hr1:w1.heap[g]?=some (.mapIter (some bm) since seen c0):=by rcases hal with rfl | rfl <;> exact h3
  have hset:=MapKept.heap_set (o':=.mapIter (some bm) since (seen.push e.born) clock) hr1
  have hgb:bm≠g:=fun e=>by subst e; rw[h3] at h5; cases h5
  have hb1:w1.heap[bm]?=some (.map es clock):=by rcases hal with rfl | rfl <;> exact h5
  have hgrown:W.grownBy (ChangeMaps.setBlock w1 g (.mapIter (some bm) since (seen.push e.born) clock)) (some g):=by
   rcases hal with rfl | rfl <;> exact⟨rfl,rfl,rfl,by simp[ChangeMaps.setBlock],fun i _ hi=>hset.2 i (fun e1=>hi (by rw[e1]))⟩
  refine .inr ⟨p,q,_,by rw[k3,hes]; rfl,by simp only[execOp,ho,ex,z1a,hrun,z0o]; rfl,?_⟩
  refine hm.keep hr rfl (by rw[hρ]; simp) hgrown (fun g' e=>by injection e with e; exact⟨_,_,hρ,e⟩) ⟨g,bm,since,seen.push e.born,clock,es,clock,kc,hρ,hnS,hset.1,hSb,(hset.2 bm hgb).trans hb1,⟨hst,hold,hsk,hsk,fun x hx=>?_,fun n' m' hl=>?_⟩,fun pq hpq=>?_⟩
  ·obtain⟨n',m',q1,q2,q3⟩:=hall x hx
   refine⟨n',m',q1,q2,?_⟩
   show(left n' m' && !(n' == p && m' == q))=_
   rw[contains_push,q3]
   have:(n' == p && m' == q)=(x.born == e.born):=by
    cases hbb:(x.born == e.born)
    ·cases hpq:(n' == p && m' == q)
     ·rfl
     ·simp at hpq
      obtain⟨rfl,rfl⟩:=hpq
      have hxe:x=e:=by
       have:=(MapKept.stamped_iff es clock).1 hst
       exact c2a this.2.2 hx hem (q1.trans k1.symm)
      subst hxe
      simp at hbb
    ·have hbb':x.born=e.born:=by simpa using hbb
     have hxe:x=e:=born_inj hst.2.1 hx hem hbb'
     subst hxe
     rw[k1] at q1
     simp at q1
     simp[q1.1,q1.2]
   simp only[this]
   cases seen.contains x.born <;> cases(x.born == e.born) <;> rfl
  ·simp only[z0d] at hl
   exact hex n' m' hl.1
  ·simp only[z0a] at hpq
   subst hpq
   exact⟨rfl,e,hem,by simp,k1,k2⟩
theorem c6d {t kt et g clock c':Nat} {r:Nat} {x y z:Operand} {es:Array MapEntry} {k:IntKind} {k':Option IntKind} {f:Int→Option Int} {n v:Int} {u:Value} (hm:MR K w0 W ρ m) (ho:o.op=.mapUpdate t x y z∨o.op=.insert t x y z) (hmu:P.underlying t=some (.map kt et)) (hku:KTy P kt k) (hu:KeyIs k n u)
  (ex:a.eval x=.map (some g)) (ey:a.eval y=u) (ez:a.eval z=a5f k' v) (hr:m[r]?=some (.mapi k k' f)) (hρ:ρ r=some (some ⟨g,0,none⟩,c')) (hnoS:¬ ρ.S g) (h3:W.heap[g]?=some (.map es clock)) (h4:b28 es clock k k' f) :
  OpTo P a o W (a2y K w0 ρ m ⟨[],.v undef,[],[(r,.mapi k k' (fun j=>bif j == n then some v else f j))],[]⟩):=by
 have hex:∀ {W':World},(Instr.mapUpdate t (.map (some g)) u (a5f k' v)).run P W=.ok () W'→(execOp a.eval o).run P W=.ok .skip W':=fun {W'} hr=>by
  rcases ho with ho | ho <;> (simp only[execOp,ho,ex,ey,ez,z1a,hr,z0o]; rfl)
 have fin:∀ {es':Array MapEntry} {clock':Nat},(Instr.mapUpdate t (.map (some g)) u (a5f k' v)).run P W=.ok () { W with heap:=W.heap.setIfInBounds g (.map es' clock') }→b28 es' clock' k k' (fun j=>bif j == n then some v else f j)→OpTo P a o W (a2y K w0 ρ m ⟨[],.v undef,[],[(r,.mapi k k' (fun j=>bif j == n then some v else f j))],[]⟩):=fun {es' clock'} hrun his=>by
  unfold OpTo
  rw[hex hrun]
  refine⟨ρ,fun r y _ h=>h,.v _,?_⟩
  simp only[t8,t4,z1f]
  exact hm.keep hr rfl (by rw[hρ]; simp) a7e (fun g'' e=>by injection e with e; exact⟨_,_,hρ,e⟩) ⟨g,es',clock',c',hρ,hnoS,(MapKept.heap_set h3).1,his⟩
 obtain⟨hst,hen,hall⟩:=h4
 rcases b5g (W:=W) hku ⟨hst,hen,hall⟩ hu with⟨f1,f2,f3⟩ | ⟨j,e,v0,f1,f3,f4,f5,f6⟩
 ·refine fin (es':=es.push { key:=u,val:=a5f k' v,born:=clock }) (clock':=clock + 1) ?_ ⟨MapKept.stamped_push hst f3,fun x hx=>?_,fun n' v' h=>?_⟩
  ·simp[Instr.mapUpdate,run_underlying hmu,z2d h3,hku.chk hu,f1,MapKept.run_setObj_map _ h3]
  ·simp only[Array.toList_push,z0n,z0r] at hx
   rcases hx with hx | rfl
   ·obtain⟨n',v',g1,g2,g3⟩:=hen x hx
    refine⟨n',v',g1,g2,?_⟩
    have:(n' == n)=false:=by
     simp only[beq_eq_false_iff_ne,ne_eq]
     intro e
     subst e
     exact f3 x hx (g1.val hu)
    simp only[this,z0m]; exact g3
   ·exact⟨n,v,hu,rfl,by simp⟩
  ·by_cases e:n'=n
   ·subst e
    exact⟨{ key:=u,val:=a5f k' v,born:=clock },by simp,hu⟩
   ·have:(n' == n)=false:=by simpa using e
    simp only[this,z0m] at h
    obtain⟨x,hx,hkx⟩:=hall n' v' h
    exact⟨x,by simp[hx],hkx⟩
 ·have hkey:∀ e',es[j]?=some e'→({ e' with key:=u,val:=a5f k' v }:MapEntry).key=e'.key:=fun e' he'=>by rw[f3] at he'; cases he'; exact f4.symm
  have hkeys:=MapKept.modify_keys (es:=es) j (fun e=>{ e with key:=u,val:=a5f k' v }) hkey
  have hst':=MapKept.stamped_modify hst j (fun e=>{ e with key:=u,val:=a5f k' v }) (fun _ _=>rfl) (fun e' _ he'=>hkey e' he')
  refine fin (es':=es.modify j fun e=>{ e with key:=u,val:=a5f k' v }) (clock':=clock) ?_ ⟨hst',fun x hx=>?_,fun n' v' h=>?_⟩
  ·simp[Instr.mapUpdate,run_underlying hmu,z2d h3,hku.chk hu,f1,f3,f4,KTy.stays hu,MapKept.run_setObj_map _ h3]
  ·obtain⟨i,hi⟩:=z3m.1 hx
   simp only[z3k,Array.getElem?_modify] at hi
   by_cases hij:j=i
   ·subst hij
    rw[if_pos rfl,f3] at hi
    simp only[z2l,z0a] at hi
    subst hi
    exact⟨n,v,hu,rfl,by simp⟩
   ·rw[if_neg hij] at hi
    obtain⟨n',v',g1,g2,g3⟩:=hen x (z2o (by simpa using hi))
    refine⟨n',v',g1,g2,?_⟩
    have:(n' == n)=false:=by
     simp only[beq_eq_false_iff_ne,ne_eq]
     intro e0
     subst e0
     have hnd:=hst.2.2
     have h1':(es.toList.map (·.key))[i]?=some u:=by rw[z3o]; simp[hi,g1.val hu]
     have h2':(es.toList.map (·.key))[j]?=some u:=by rw[z3o]; simp[f3,f4]
     exact hij ((List.getElem?_inj (z0c.1 h2').1 hnd).1 (h2'.trans h1'.symm))
    simp only[this,z0m]; exact g3
  ·have hmem:∀ {q:Value},q∈es.toList.map (·.key)→∃ x∈(es.modify j fun e=>{ e with key:=u,val:=a5f k' v }).toList,x.key=q:=fun {q} hq=>by
    rw[← hkeys] at hq
    obtain⟨x,hx,e⟩:=z2h.1 hq
    exact⟨x,hx,e⟩
   by_cases e0:n'=n
   ·subst e0
    obtain⟨x,hx,hxe⟩:=hmem (z2h.2 ⟨e,z2o (by simpa using f3),f4⟩)
    exact⟨x,hx,by rw[hxe]; exact hu⟩
   ·have:(n' == n)=false:=by simpa using e0
    simp only[this,z0m] at h
    obtain⟨x,hx,hkx⟩:=hall n' v' h
    obtain⟨y,hy,hye⟩:=hmem (z2h.2 ⟨x,hx,rfl⟩)
    exact⟨y,hy,by rw[hye]; exact hkx⟩
theorem a9m {t:Nat} {x y z:Operand} {b:BRes} (hT:TabOk P T) (hG:GlobOk T ρ) (hm:MR K w0 W ρ m) (ho:o.op=.mapUpdate t x y z∨o.op=.insert t x y z) (hs:OpsOk ρ sl a [x,y,z]) (h:a8k T sl m [] t x y z=some b) :
  OpTo P a o W (a2y K w0 ρ m b):=by
 have hc:sat a []:=fun q w hq=>by cases hq
 simp only[a8k] at h
 split at h
 ·rename_i r q n zz hx hy hz
  split at h
  ·rename_i k k' k2 k2' f hk hr
   split at h
   case h_2=>cases h
   rename_i v hval
   cases hc2:(kEq k k2 && oEq k' k2' && kEq k q && !(kEq k .i8))
   ·rw[hc2] at h; cases h
   ·simp only[hc2,z0f,z0a] at h
    subst h
    simp only[z0d,z0x] at hc2
    obtain⟨⟨⟨e1,e2⟩,e3⟩,e4⟩:=hc2
    obtain rfl:=u4.1 e1
    obtain rfl:=a62.1 e2
    obtain rfl:=u4.1 e3
    obtain⟨kt,et,hmu,hku,_⟩:=a3j hT hk
    have ey:=(f7 hG hy (hs.sub (by simp)) hc).i_inv
    have ez:=b62 hval (f7 hG hz (hs.sub (by simp)) hc)
    have hdx:=f7 hG hx (hs.sub (by simp)) hc
    obtain⟨g,c',hρ,ex⟩:∃ g c',ρ r=some (some ⟨g,0,none⟩,c')∧a.eval x=.map (some g):=by
     generalize a.eval x=w at hdx
     cases hdx with
     | mp h=>exact⟨_,_,h,rfl⟩
    have hr:=p9 hr
    obtain⟨g',es,clock,c'',h1,hnoS,h3,h4⟩:=hm.blk r _ hr (by rw[hρ]; simp)
    rw[hρ] at h1
    simp only[z0a,z0g,z2a,and_true] at h1
    obtain⟨rfl,rfl⟩:=h1
    exact c6d hm ho hmu hku (KeyIs.ofInt e4 n) ex ey ez hr hρ hnoS h3 h4
  ·cases h
 ·rename_i r v zz _ hx hy hz
  split at h
  ·rename_i p q k2 k2' f hpq hr
   split at h
   ·rename_i k k' hk
    split at h
    case h_2=>cases h
    rename_i v hval
    cases hc2:(kEq k k2 && oEq k' k2' && kEq k .i8)
    ·rw[hc2] at h; cases h
    ·simp only[hc2,z0f,z0a] at h
     subst h
     simp only[z0d] at hc2
     obtain⟨⟨e1,e2⟩,e3⟩:=hc2
     obtain rfl:=u4.1 e1
     obtain rfl:=a62.1 e2
     obtain rfl:=u4.1 e3
     obtain⟨kt,et,hmu,hku,_⟩:=a3j hT hk
     have ey:=a65 hpq (f7 hG hy (hs.sub (by simp)) hc)
     have ez:=b62 hval (f7 hG hz (hs.sub (by simp)) hc)
     obtain⟨g,c',hρ,ex⟩:=(f7 hG hx (hs.sub (by simp)) hc).mp_inv
     have hr:=p9 hr
     obtain⟨g',es,clock,c'',h1,hnoS,h3,h4⟩:=hm.blk r _ hr (by rw[hρ]; simp)
     rw[hρ] at h1
     simp only[z0a,z0g,z2a,and_true] at h1
     obtain⟨rfl,rfl⟩:=h1
     exact c6d hm ho hmu hku (KeyIs.ofPair p q) ex ey ez hr hρ hnoS h3 h4
   ·cases h
  ·rename_i p q f hpq hr
   cases hmp:a2c T t
   ·rw[hmp] at h; cases h
   ·simp only[hmp,z0f,z0a] at h
    subst h
    obtain⟨kt,et,hmu,hku,_⟩:=a60 hT hmp
    have ey:=a65 hpq (f7 hG hy (hs.sub (by simp)) hc)
    have ez:=(f7 hG hz (hs.sub (by simp)) hc).tt_inv
    obtain⟨g,c',hρ,ex⟩:=(f7 hG hx (hs.sub (by simp)) hc).mp_inv
    have hr:=p9 hr
    obtain⟨g',es,clock,c'',h1,hnoS,h3,h4⟩:=hm.blk r _ hr (by rw[hρ]; simp)
    rw[hρ] at h1
    simp only[z0a,z0g,z2a,and_true] at h1
    obtain⟨rfl,rfl⟩:=h1
    have hex:∀ {W':World},(Instr.mapUpdate t (.map (some g)) (u7 p q) (.bool true)).run P W=.ok () W'→(execOp a.eval o).run P W=.ok .skip W':=fun {W'} hr=>by
     rcases ho with ho | ho <;> (simp only[execOp,ho,ex,ey,ez,z1a,hr,z0o]; rfl)
    have fin:∀ {es':Array MapEntry} {clock':Nat},(Instr.mapUpdate t (.map (some g)) (u7 p q) (.bool true)).run P W=.ok () { W with heap:=W.heap.setIfInBounds g (.map es' clock') }→a85 es' clock' (fun a b=>(a == p && b == q) || f a b)→OpTo P a o W (a2y K w0 ρ m ⟨[],.v undef,[],[(r,.mapp (fun a b=>(a == p && b == q) || f a b))],[]⟩):=fun {es' clock'} hrun his=>by
     unfold OpTo
     rw[hex hrun]
     refine⟨ρ,fun r y _ h=>h,.v _,?_⟩
     simp only[t8,t4,z1f]
     exact hm.keep hr rfl (by rw[hρ]; simp) a7e (fun g'' e=>by injection e with e; exact⟨_,_,hρ,e⟩) ⟨g,es',clock',c',hρ,hnoS,(MapKept.heap_set h3).1,his⟩
    have h4':=h4
    obtain⟨hst,hen,hall⟩:=h4
    rcases b5h (W:=W) hku h4' p q with⟨f1,f2,f3⟩ | ⟨j,e,f1,f3,f4,f5,f6⟩
    ·refine fin (es':=es.push { key:=u7 p q,val:=.bool true,born:=clock }) (clock':=clock + 1) ?_ ⟨MapKept.stamped_push hst f3,fun x hx=>?_,fun n' m' h=>?_⟩
     ·simp[Instr.mapUpdate,run_underlying hmu,z2d h3,hku.chk,f1,MapKept.run_setObj_map _ h3]
     ·simp only[Array.toList_push,z0n,z0r] at hx
      rcases hx with hx | rfl
      ·obtain⟨n',m',g1,g2,g3⟩:=hen x hx
       exact⟨n',m',g1,g2,by simp[g3]⟩
      ·exact⟨p,q,rfl,rfl,by simp⟩
     ·by_cases e:n'=p∧m'=q
      ·obtain⟨rfl,rfl⟩:=e
       exact⟨{ key:=u7 n' m',val:=.bool true,born:=clock },by simp,rfl⟩
      ·have h':f n' m'=true:=by
        simp only[z1r,z0d,beq_iff_eq] at h
        exact h.resolve_left e
       obtain⟨x,hx,hkx⟩:=hall n' m' h'
       exact⟨x,by simp[hx],hkx⟩
    ·have hkey:∀ e',es[j]?=some e'→({ e' with key:=u7 p q,val:=.bool true }:MapEntry).key=e'.key:=fun e' he'=>by rw[f3] at he'; cases he'; exact f4.symm
     have hkeys:=MapKept.modify_keys (es:=es) j (fun e=>{ e with key:=u7 p q,val:=.bool true }) hkey
     have hst':=MapKept.stamped_modify hst j (fun e=>{ e with key:=u7 p q,val:=.bool true }) (fun _ _=>rfl) (fun e' _ he'=>hkey e' he')
     refine fin (es':=es.modify j fun e=>{ e with key:=u7 p q,val:=.bool true }) (clock':=clock) ?_ ⟨hst',fun x hx=>?_,fun n' m' h=>?_⟩
     ·simp[Instr.mapUpdate,run_underlying hmu,z2d h3,hku.chk,f1,f3,f4,b3l,MapKept.run_setObj_map _ h3]
     ·obtain⟨i,hi⟩:=z3m.1 hx
      simp only[z3k,Array.getElem?_modify] at hi
      by_cases hij:j=i
      ·subst hij
       rw[if_pos rfl,f3] at hi
       simp only[z2l,z0a] at hi
       subst hi
       exact⟨p,q,rfl,rfl,by simp⟩
      ·rw[if_neg hij] at hi
       obtain⟨n',m',g1,g2,g3⟩:=hen x (z2o (by simpa using hi))
       exact⟨n',m',g1,g2,by simp[g3]⟩
     ·have hmem:∀ {q':Value},q'∈es.toList.map (·.key)→∃ x∈(es.modify j fun e=>{ e with key:=u7 p q,val:=.bool true }).toList,x.key=q':=fun {q'} hq=>by
       rw[← hkeys] at hq
       obtain⟨x,hx,e⟩:=z2h.1 hq
       exact⟨x,hx,e⟩
      by_cases e0:n'=p∧m'=q
      ·obtain⟨rfl,rfl⟩:=e0
       exact hmem (z2h.2 ⟨e,z2o (by simpa using f3),f4⟩)
      ·have h':f n' m'=true:=by
        simp only[z1r,z0d,beq_iff_eq] at h
        exact h.resolve_left e0
       obtain⟨x,hx,hkx⟩:=hall n' m' h'
       exact hmem (z2h.2 ⟨x,hx,hkx⟩)
  ·cases h
 ·cases h
theorem b75 {w:World} {B e sz n k:Nat} {A:Option Addr} {c:Nat} {xs:List Value} (h:w.ownsRow B e sz (.slice A n c) n xs) (hk:k≤n):w.ownsRow B e sz (.slice A k c) k (xs.take (k * sz)):=by
 obtain⟨h1,h2⟩:=h
 have hle:k * sz≤n * sz:=z1w sz hk
 refine⟨by rw[List.length_take,h1]; exact Nat.min_eq_left hle,?_⟩
 rcases h2 with⟨e1,e2⟩ | ⟨g,cap,cur,e1,e2,e3,e4,e5,e6,e7⟩
 ·simp only[z0y] at e1
  obtain⟨rfl,rfl,rfl⟩:=e1
  have:k=0:=by omega
  subst this
  exact .inl ⟨rfl,rfl⟩
 ·simp only[z0y] at e1
  obtain⟨rfl,_,rfl⟩:=e1
  refine .inr ⟨g,c,cur,rfl,e2,e3,by omega,e5,e6,?_⟩
  rw[← e7,List.take_take,Nat.min_eq_left hle]
theorem c7u {t:Nat} {x y:Operand} {b:BRes} (hT:TabOk P T) (hG:GlobOk T ρ) (hm:MR K w0 W ρ m) (ho:o.op=.slice t x none (some y) none) (hs:OpsOk ρ sl a [x,y]) (h:a0x T sl m [] (.slice t x none (some y) none)=some b) (hp:∀ p∈b.pre,p) :
  OpTo P a o W (a2y K w0 ρ m b):=by
 have hc:sat a []:=fun q w hq=>by cases hq
 simp only[a0x] at h
 split at h
 ·rename_i ti r n ky bb hti hx hy
  split at h
  ·rename_i te e n' cols hte hr
   cases hk:(Nat.beq ti.kind 3 && Nat.beq te.size cols.length)
   ·simp[hk] at h
   ·simp only[hk,z0f,z0a] at h
    subst h
    simp only[z0d] at hk
    obtain⟨k1,k2⟩:=hk
    have k2:=z0b k2
    obtain⟨hu,_⟩:=q6 (hT.types t ti hti) (z0b k1)
    obtain⟨i,hi',hsz,_,_⟩:=s4 (hT.types _ te hte)
    have hel:P.elem t=ti.elem:=by simp[Program.elem,hu]
    have hu':P.underlying t=some (.slice (P.elem t)):=by rw[hel]; exact hu
    have hso:(sizeOf (P.elem t)).run P W=.ok te.size W:=by rw[hel]; simp[sizeOf,typeInfo,hi',hsz]
    have p1:n=n':=hp _ (by simp)
    have p2:0≤bb:=hp _ (by simp)
    have p3:bb≤n:=hp _ (by simp)
    subst p1
    have hdx:=f7 hG hx (hs.sub (by simp)) hc
    have hdy:=(f7 hG hy (hs.sub (by simp)) hc).i_inv
    obtain⟨A,k,hρ,ex,hne⟩:=hdx.sl_inv
    have hr:=p9 hr
    have hb:=hm.blk r _ hr (by rw[hρ]; simp)
    obtain⟨A',c',vs,h1,h2,h3,h4,h5⟩:=hb
    rw[hρ] at h1
    simp only[z0a,z0g] at h1
    obtain⟨rfl,rfl⟩:=h1
    have hcap:n≤k:=by
     rcases h2.2 with⟨_,h0⟩ | ⟨g,cap,cur,h,_,_,hnc,_⟩
     ·omega
     ·simp only[z0y] at h; omega
    have hrun:(execOp a.eval o).run P W=.ok (.value (.slice A bb.toNat k)) W:=by
     have hA:(if k=0 then A else A.map (·.add (0 * te.size)))=A:=by
      rw[Nat.zero_mul]
      cases A with
      | none=>simp
      | some ad=>cases ad; simp[Addr.add]
     simp only[execOp,ho,z3l,z2l,z1a,ex,hdy,run_sliceAt_slice W t _ _ _ _ hu',run_slice_h W t A n k hu' ky bb p2 (by omega),hso,z0o,sliced,Nat.sub_zero,hA]
     rfl
    refine OpTo.value hrun ⟨ρ,fun r y _ h=>h,.sl hρ (fun h0=>hne (by omega)),?_⟩
    simp only[t8,t4,z1f]
    refine hm.keep (row:=none) hr rfl (by rw[hρ]; simp) ⟨rfl,rfl,rfl,z0q _,fun _ _ _=>rfl⟩ (fun g e=>by cases e) ?_
    refine⟨A,k,_,hρ,b75 h2 (by omega),h3,h4,fun j hj kk col hcol=>?_⟩
    obtain⟨v,hv,hd⟩:=h5 j (by omega) kk col hcol
    have hkk:kk < cols.length:=(z0c.1 hcol).1
    refine⟨v,?_,hd⟩
    rw[List.getElem?_take_of_lt]
    ·exact hv
    ·have:j * cols.length + cols.length≤bb.toNat * cols.length:=by
      have:=z1w cols.length (show j + 1≤bb.toNat from hj)
      rw[z3f] at this
      exact this
     omega
  ·cases h
 ·cases h
theorem d0i {t:Nat} {x:Operand} {b:BRes} (hT:TabOk P T) (hG:GlobOk T ρ) (hm:MR K w0 W ρ m) (ho:o.op=.load t x) (hs:OpsOk ρ sl a [x]) (h:a0x T sl m [] (.load t x)=some b) (hp:∀ p∈b.pre,p) :
  OpTo P a o W (a2y K w0 ρ m b):=by
 have hc:sat a []:=fun q w hq=>by cases hq
 simp only[a0x] at h
 split at h
 ·rename_i ti r sz ix off hti hx
  split at h
  ·rename_i e e' n lk len gs hr
   cases hk:(Nat.beq ti.kind 3 && Nat.beq sz 1 && Nat.beq off 0 && Nat.beq ti.elem e')
   ·rw[hk] at h; cases h
   ·simp only[hk,z0f,z0a] at h
    subst h
    have hix:ix < n:=hp _ (by simp)
    have hrm:=(z0c.1 (p9 hr)).1
    obtain⟨σ,hle,hm2⟩:=hm.take (p9 hr) hix
    have hlen:(i4 m r (.orows e e' n (some ix) (some m.length) len gs) ++ [MBlk.oarr e' (len ix) (a01 gs ix)]).length=m.length + 1:=by simp[d8]
    have hnr:nth (i4 m r (.orows e e' n (some ix) (some m.length) len gs) ++ [MBlk.oarr e' (len ix) (a01 gs ix)]) r=some (.orows e e' n (some ix) (some m.length) len gs):=by
     rw[t0,z0t (by rw[d8]; exact hrm),j7,if_pos ⟨rfl,hrm⟩]
    have hst:q8 T sl (i4 m r (.orows e e' n (some ix) (some m.length) len gs) ++ [MBlk.oarr e' (len ix) (a01 gs ix)]) [] 0 (.load t x)=some ⟨[ix < n,ix=ix],.sl m.length (len ix),[]⟩:=by
     simp only[q8,hti,hx,hnr,hk,z0f]
    have hop:=c2q (P:=P) (W:=W) hT ho hm2.blk (⟨fun g r hg=>by obtain⟨c,hc⟩:=hG.gl g r hg; exact⟨c,hle _ _ hc⟩,fun p hp=>hle _ _ (hG.pin p hp)⟩:GlobOk T σ) (fun t s ht hn hsat=>(hs t s ht hn hsat).mono hle) hc hst (fun p hp=>by
     simp only[z0s,List.not_mem_nil,or_false] at hp
     rcases hp with hp | hp
     ·rw[hp]; exact hix
     ·rw[hp]; trivial)
    refine hop.mono fun v W' hv=>?_
    obtain⟨h1,τ,h2,h3,h4,h5⟩:=hv
    have hm3:=hm2.grow h1 (fun r hr=>h2 r hr) h3 h5
    refine⟨τ,fun r y _ hy=>?_,h4,?_⟩
    ·rw[h2 r (by simp only[z3a]; omega)]
     exact hle r y hy
    ·simp only[t4,t8,z1f] at hm3 ⊢
     exact hm3
  ·cases h
 ·cases h
theorem a7f {b:BRes} (hT:TabOk P T) (hG:GlobOk T ρ) (hm:MR K w0 W ρ m) (hs:OpsOk ρ sl a o.op.operands.toList) (h:a0x T sl m [] o.op=some b) (hp:∀ p∈b.pre,p):OpTo P a o W (a2y K w0 ρ m b):=by
 have hf:ρ m.length=none:=by
  cases hx:ρ m.length with
  | none=>rfl
  | some y=>exact absurd (hm.dom _ (by rw[hx]; simp)) (z1k _)
 generalize ho:o.op=op at h hs
 cases op
 case store t x y=>exact c7v hT hG hm ho (hs.sub (by simp[Op.operands])) h hp
 case load t x=>exact d0i hT hG hm ho (hs.sub (by simp[Op.operands])) h hp
 case mapUpdate t x y z=>exact a9m hT hG hm (.inl ho) (hs.sub (by simp[Op.operands])) h
 case insert t x y z=>exact a9m hT hG hm (.inr ho) (hs.sub (by simp[Op.operands])) h
 case call cl=>exact d0f hT hG hm ho hs h hp
 case range t x=>exact c7t hG hm hf ho (hs.sub (by simp[Op.operands])) h hT
 case buildSlice t n ps =>
  match n,ho,h,hs with
  | 1,ho,h,hs=>exact d41 hT hG hm hf ho (hs.sub (by simp[Op.operands])) h hp
  | 0,_,h,_=>simp[a0x] at h
  | 3,ho,h,hs=>exact d0h hT hG hm hf ho (hs.sub (by simp[Op.operands])) h hp
  | 2,ho,h,hs=>exact d0g hT hG hm hf ho (hs.sub (by simp[Op.operands])) h hp
  | n + 4,_,h,_=>simp[a0x] at h
 case slice t x lo hi mx =>
  match lo,hi,mx,ho,h,hs with
  | none,some y,none,ho,h,hs=>exact c7u hT hG hm ho (hs.sub (by simp[Op.operands])) h hp
  | some _,_,_,_,h,_=>simp[a0x] at h
  | none,none,_,_,h,_=>simp[a0x] at h
  | none,some _,some _,_,h,_=>simp[a0x] at h
 all_goals simp[a0x] at h
theorem MR.settle {p q e2 e3 e4 j:Nat} {len:Nat→Nat} {gs0:List (Nat→Nat→Int)} {cols:List Col} {gs:List (Nat→Nat→Int)} (hm:MR K w0 W ρ m) (hq:m[q]?=some (.orows e2 e3 1 (some 0) (some p) len gs0)) (hp:m[p]?=some (.oarr e4 j cols)) (hgs:b2c cols=some gs) (hl:len 0=j) (hρ:ρ q≠none) :
  ∃ σ:Env,σ.f=ρ.f∧MR K w0 W σ (t4 m [(p,.arr j cols),(q,.oarr e2 1 [.rows (fun _=>j) gs])]):=by
 have hb:=hm.blk q _ hq hρ
 obtain⟨A,c,vs,h1,h2,h3,h4,_,_,h7⟩:=id hb
 obtain⟨B,d,hρp,hvs,hB⟩:=h7 0 p rfl rfl
 obtain⟨hmg,hnd,hread⟩:=hm.give hp hρp
 have hne:q≠p:=fun e=>by subst e; rw[hq] at hp; cases hp
 have hq':(i4 m p (.arr j cols))[q]?=some (.orows e2 e3 1 (some 0) (some p) len gs0):=by rw[j7,if_neg (by omega)]; exact hq
 refine⟨a1h ρ j B,rfl,?_⟩
 simp only[t4]
 refine hmg.keep (row:=none) hq' rfl hρ ⟨rfl,rfl,rfl,z0q _,fun _ _ _=>rfl⟩ (fun g e=>by cases e) ?_
 refine⟨A,c,vs,h1,h2,fun a ha hs=>?_,z3s,fun i hi k col hcol=>?_⟩
 ·rcases hs with h | ⟨_,b,hb',e⟩
  ·exact h3 a ha h
  ·exact hne (hm.sep q p _ _ a b c d hq hp rfl rfl (by rw[h1,ha]) (by rw[hρp,hb']) e.symm)
 ·have hi0:i=0:=by omega
  subst hi0
  have hk0:k=0:=by have:=(z0c.1 hcol).1; simpa using this
  subst hk0
  simp at hcol
  subst hcol
  refine⟨_,by simpa using hvs,B,d,by rw[hl],hnd,fun h0=>?_⟩
  obtain⟨ad,hA,hS,hcell⟩:=hread h0
  obtain⟨g1,g2⟩:=b4z hgs
  refine⟨ad,hA,hS,fun i hi k g hg=>?_⟩
  obtain⟨h',hc',rfl⟩:=g2 k g hg
  obtain⟨u,hu',hd'⟩:=hcell i hi k _ hc'
  simp only[j4] at hd'
  subst hd'
  rw[g1]
  exact hu'
theorem a3i (l:List Nat) (m:List MBlk) (r:Nat) (k:MBlk) (hk:l9 l k=k):x6 l (i4 m r k)=i4 (x6 l m) r k:=by
 apply List.ext_getElem?
 intro i
 rw[a19,j7,j7,a19,z6]
 split
 ·simp[hk]
 ·rfl
theorem b17 {b:BRes} (hT:TabOk P T) (hG:GlobOk T ρ) (hm:MR K w0 W ρ m) (hs:OpsOk ρ sl a o.op.operands.toList) (h:b42 T sl m o.op=some b) (hp:∀ p∈b.pre,p):OpTo P a o W (a2y K w0 ρ m b):=by
 unfold b42 at h
 split at h
 ·rename_i ps us hse
  split at h
  ·rename_i b2 hb2
   cases h
   have hp1:∀ p∈ps,p:=fun p h=>hp p (z0n.2 (.inl h))
   have hp2:∀ p∈b2.pre,p:=fun p h=>hp p (z0n.2 (.inr h))
   unfold settle at hse
   split at hse <;> first | cases hse | skip
   rename_i cl hop
   split at hse <;> first | cases hse | skip
   rename_i x y hca har
   split at hse <;> first | cases hse | skip
   rename_i q kk hy
   split at hse <;> first | cases hse | skip
   rename_i e2 e3 nn p len gs0 hq
   split at hse <;> first | cases hse | skip
   rename_i e4 j cols hpp
   have hdy:=f7 hG hy (hs.sub (by rw[hop]; intro z hz; simp only[z0r] at hz; subst hz; simp only[Op.operands,Call.operands]; simp; exact .inr (by rw[← Array.mem_toList_iff,har]; simp))) (fun q w hq=>by cases hq)
   obtain⟨A,cc,hρq,_,_⟩:=hdy.sl_inv
   cases h3:y4 1000003 T.sure
   rotate_left
   ·rw[h3,z0f] at hse
    cases hk:(Nat.beq nn 1 && Nat.beq j 0 && Nat.beq e3 e4 && Nat.beq gs0.length cols.length)
    ·rw[hk] at hse; cases hse
    rw[hk,z0f] at hse
    simp only[z0d] at hk
    obtain⟨⟨⟨k1,k2⟩,k3⟩,k4⟩:=hk
    obtain rfl:=z0b k1
    obtain rfl:=z0b k2
    obtain rfl:=z0b k3
    cases hse
    have hl:len 0=0:=hp1 _ (z0r.2 rfl)
    obtain⟨σ,hσf,hm2⟩:=hm.putBack (p9 hq) (p9 hpp) (z0b k4) hl rfl (gs':=gs0) (fun kk g' hg=>⟨fun j _=>⟨g',hg,rfl⟩,fun h0=>absurd h0 (z1k _)⟩)
    have hσ:∀ r,σ r=ρ r:=fun r=>by show σ.f r=ρ.f r; rw[hσf]
    have hG2:GlobOk T σ:=⟨fun g r hg=>by rw[hσ]; exact hG.gl g r hg,fun p hp=>by rw[hσ]; exact hG.pin p hp⟩
    have hs2:OpsOk σ sl a o.op.operands.toList:=fun t s ht hn hsat=>(hs t s ht hn hsat).mono fun r y hy=>by rw[hσ]; exact hy
    refine(a7f hT hG2 hm2 hs2 hb2 hp2).mono fun v W' ⟨τ,t1,t2,t3⟩=>⟨τ,fun r y hr hy=>t1 r y hr (by rw[hσ]; exact hy),t2,?_⟩
    have e:t4 (x6 b2.kill (t4 m [(q,.orows e2 e3 1 none none len gs0),(p,.gone)])) b2.upd=t4 (x6 b2.kill m) ([(q,.orows e2 e3 1 none none len gs0),(p,.gone)] ++ b2.upd):=by
     simp only[t4,List.cons_append,List.nil_append]
     rw[a3i _ _ _ _ rfl,a3i _ _ _ _ rfl]
    rw[← e]
    exact t3
   rw[h3,z0m] at hse
   split at hse <;> first | cases hse | skip
   rename_i gs hgs
   cases hn1:Nat.beq nn 1
   ·rw[hn1] at hse; cases hse
   rw[hn1,z0f] at hse
   have hn1:=z0b hn1
   subst hn1
   cases hse
   have hl:len 0=j:=hp1 _ (z0r.2 rfl)
   obtain⟨σ,hσf,hm2⟩:=hm.settle (p9 hq) (p9 hpp) hgs hl (by rw[hρq]; simp)
   have hσ:∀ r,σ r=ρ r:=fun r=>by show σ.f r=ρ.f r; rw[hσf]
   have hG2:GlobOk T σ:=⟨fun g r hg=>by rw[hσ]; exact hG.gl g r hg,fun p hp=>by rw[hσ]; exact hG.pin p hp⟩
   have hs2:OpsOk σ sl a o.op.operands.toList:=fun t s ht hn hsat=>(hs t s ht hn hsat).mono fun r y hy=>by rw[hσ]; exact hy
   refine(a7f hT hG2 hm2 hs2 hb2 hp2).mono fun v W' ⟨τ,t1,t2,t3⟩=>⟨τ,fun r y hr hy=>t1 r y hr (by rw[hσ]; exact hy),t2,?_⟩
   have e:t4 (x6 b2.kill (t4 m [(p,.arr j cols),(q,.oarr e2 1 [.rows (fun _=>j) gs])])) b2.upd=t4 (x6 b2.kill m) ([(p,.arr j cols),(q,.oarr e2 1 [.rows (fun _=>j) gs])] ++ b2.upd):=by
    simp only[t4,List.cons_append,List.nil_append]
    rw[a3i _ _ _ _ rfl,a3i _ _ _ _ rfl]
   rw[← e]
   exact t3
  ·cases h
 ·exact a7f hT hG hm hs h hp
end
end Go.Proofs.YtaeeaniofljmnaaGreatDoor.Sx

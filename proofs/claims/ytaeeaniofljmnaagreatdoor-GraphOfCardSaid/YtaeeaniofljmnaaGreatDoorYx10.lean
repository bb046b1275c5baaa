/-
  A part of the proof (Yx10).
-/
import Derived.Test.YtaeeaniofljmnaaGreatDoorYx9
namespace Go.Proofs.YtaeeaniofljmnaaGreatDoor.Sx
set_option linter.unusedSimpArgs false
set_option linter.unusedVariables false
open Go Go.RowKit
section
variable {ρ:Env}
theorem b64 {x y:SV} {xs ys:List SV} (h:a6n (x :: xs) (y :: ys)):veq x y∧a6n xs ys:=by
 cases xs with
 | nil =>
  cases ys with
  | nil=>simp only[a6n] at h; exact⟨h,by simp only[a6n]⟩
  | cons z zs=>simp only[a6n] at h; exact h
 | cons w ws=>simp only[a6n] at h; exact h
mutual
theorem a3l:∀(x y:SV) (v:Value),veq x y→Den ρ y v→Den ρ x v
 | .dead,_,v,_,_=>.dead v
 | .tt,y,v,h,hd=>by
  simp only[veq] at h
  split at h
  ·rename_i b hb; subst h; rw[hd.bOf hb]; exact .tt
  ·exact h.elim
 | .ff,y,v,h,hd=>by
  simp only[veq] at h
  split at h
  ·rename_i b hb; subst h; rw[hd.bOf hb]; exact .ff
  ·exact h.elim
 | .b x,y,v,h,hd=>by
  simp only[veq] at h
  split at h
  ·rename_i b hb; subst h; rw[hd.bOf hb]; exact .b _
  ·exact h.elim
 | .i k n,y,v,h,hd=>by
  cases y <;> simp only[veq] at h <;> try exact h.elim
  rename_i k' n'
  cases hk:kEq k k'
  ·simp[hk] at h
  ·simp[hk] at h; subst h; obtain rfl:=u4.1 hk; exact hd
 | .nilsl,y,v,h,hd=>by cases y <;> simp only[veq] at h <;> first | exact hd | exact h.elim
 | .nilptr,y,v,h,hd=>by cases y <;> simp only[veq] at h <;> first | exact hd | exact h.elim
 | .nilmap,y,v,h,hd=>by cases y <;> simp only[veq] at h <;> first | exact hd | exact h.elim
 | .ptr r o,y,v,h,hd=>by
  cases y <;> simp only[veq] at h <;> try exact h.elim
  rename_i r' o'
  cases hk:(Nat.beq r r' && Nat.beq o o')
  ·simp[hk] at h
  ·rw[z0d] at hk
   obtain rfl:=z0b hk.1
   obtain rfl:=z0b hk.2
   exact hd
 | .pix r sz ix o,y,v,h,hd=>by
  cases y <;> simp only[veq] at h <;> try exact h.elim
  rename_i r' sz' ix' o'
  cases hk:(Nat.beq r r' && Nat.beq sz sz' && Nat.beq o o')
  ·simp[hk] at h
  ·simp[hk] at h
   subst h
   simp only[z0d] at hk
   obtain rfl:=z0b hk.1.1
   obtain rfl:=z0b hk.1.2
   obtain rfl:=z0b hk.2
   exact hd
 | .sl r n,y,v,h,hd=>by
  cases y <;> simp only[veq] at h <;> try exact h.elim
  rename_i r' n'
  cases hk:Nat.beq r r'
  ·simp[hk] at h
  ·simp[hk] at h
   subst h
   obtain rfl:=z0b hk
   exact hd
 | .sub r sz lo n,y,v,h,hd=>by
  cases y <;> simp only[veq] at h <;> try exact h.elim
  rename_i r' sz' lo' n'
  cases hk:(Nat.beq r r' && Nat.beq sz sz')
  ·simp[hk] at h
  ·simp[hk] at h
   obtain⟨h1,h2⟩:=h
   subst h1 h2
   rw[z0d] at hk
   obtain rfl:=z0b hk.1
   obtain rfl:=z0b hk.2
   exact hd
 | .yld r,y,v,h,hd=>by
  cases y <;> simp only[veq] at h <;> try exact h.elim
  rename_i r'
  cases hk:Nat.beq r r'
  ·simp[hk] at h
  ·obtain rfl:=z0b hk
   exact hd
 | .mp r,y,v,h,hd=>by
  cases y <;> simp only[veq] at h <;> try exact h.elim
  rename_i r'
  cases hk:Nat.beq r r'
  ·simp[hk] at h
  ·obtain rfl:=z0b hk
   exact hd
 | .agg xs,y,v,h,hd=>by
  cases y <;> simp only[veq] at h <;> try exact h.elim
  rename_i ys
  obtain⟨vs,rfl,hv⟩:=hd.agg_inv
  have:=a5r xs ys vs h hv
  exact .agg this.1 this.2
 | .tup xs,y,v,h,hd=>by
  cases y <;> simp only[veq] at h <;> try exact h.elim
  rename_i ys
  obtain⟨vs,rfl,hv⟩:=hd.tup_inv
  have:=a5r xs ys vs h hv
  exact .tup this.1 this.2
 | .fn f xs,y,v,h,hd=>by
  cases y <;> simp only[veq] at h <;> try exact h.elim
  rename_i g ys
  cases hk:Nat.beq f g
  ·simp[hk] at h
  ·simp only[hk,z0f] at h
   obtain rfl:=z0b hk
   cases hd with
   | fn h1 h2 =>
    have:=a5r xs ys _ h ⟨h1,h2⟩
    exact .fn this.1 this.2
 | .v x,y,v,h,hd=>by
  cases y <;> simp only[veq] at h <;> try exact h.elim
  subst h
  exact hd
theorem a5r:∀(xs ys:List SV) (vs:List Value),a6n xs ys→DenL ρ ys vs→DenL ρ xs vs
 | [],[],_,_,hd=>hd
 | x :: xs,y :: ys,vs,h,hd=>by
  obtain⟨h1,h2⟩:=b64 h
  obtain⟨w,ws,rfl,e1,e2⟩:=hd.inv
  exact DenL.cons (a3l x y w h1 e1) (a5r xs ys ws h2 e2)
 | [],_ :: _,_,h,_=>by simp only[a6n] at h
 | x :: xs,[],_,h,_=>by cases xs <;> simp only[a6n] at h
end
theorem a1r {n:Nat} {c c':List Col} (h:a1a n c c'):c'.length=c.length∧∀(k:Nat) (col col':Col),c[k]?=some col→c'[k]?=some col'→a8w n col col':=by
 induction c generalizing c' with
 | nil=>cases c' with
  | nil=>exact⟨rfl,fun k col col' h=>by simp at h⟩
  | cons=>simp only[a1a] at h
 | cons x xs ih=>cases c' with
  | nil=>simp only[a1a] at h
  | cons y ys =>
   simp only[a1a] at h
   obtain⟨h1,h2⟩:=ih h.2
   refine⟨by simp[h1],fun k col col' hc hc'=>?_⟩
   cases k with
   | zero=>simp at hc hc'; subst hc hc'; exact h.1
   | succ k=>exact h2 k col col' (by simpa using hc) (by simpa using hc')
theorem b3v {n:Nat} {len:Nat→Nat}:∀ {gs gs':List (Nat→Nat→Int)},a66 n len gs gs'→gs'.length=gs.length∧∀(k:Nat) (g:Nat→Nat→Int),gs[k]?=some g→∃ g':Nat→Nat→Int,gs'[k]?=some g'∧∀ j,j < n→∀ i,i < len j→g' j i=g j i:=by
 intro gs
 induction gs with
 | nil=>intro gs' h; cases gs' <;> simp[a66] at h ⊢
 | cons g r ih =>
  intro gs' h
  cases gs' with
  | nil=>simp[a66] at h
  | cons g' r' =>
   simp only[a66] at h
   obtain⟨h1,h2⟩:=ih h.2
   refine⟨by simp[h1],fun k g0 hk=>?_⟩
   cases k with
   | zero=>simp at hk; subst hk; exact⟨g',rfl,h.1⟩
   | succ k=>simpa using h2 k g0 (by simpa using hk)
theorem a2p {S:Nat→Prop} {W:World} {n j:Nat} {c c':Col} {v:Value} (h:a8w n c c') (hj:j < n) (hd:j4 S W c' j v):j4 S W c j v:=by
 cases c with
 | any=>trivial
 | int k g =>
  cases c' <;> simp only[a8w] at h
  case any=>omega
  rename_i k' g'
  cases hk:kEq k k'
  ·simp[hk] at h
  ·simp only[hk,z0f] at h
   obtain rfl:=u4.1 hk
   simp only[j4] at hd ⊢
   rw[hd,h j hj]
 | bool g =>
  cases c' <;> simp only[a8w] at h
  case any=>omega
  simp only[j4] at hd ⊢
  rw[hd,h j hj]
 | rows len gs =>
  cases c' <;> simp only[a8w] at h
  case any=>omega
  rename_i len' gs'
  obtain⟨h1,h2⟩:=h
  obtain⟨e1,e2⟩:=b3v h2
  obtain⟨A,c,p1,p2,p3⟩:=hd
  rw[h1 j hj] at p1 p2 p3
  refine⟨A,c,p1,p2,fun h0=>?_⟩
  obtain⟨a,ha,hs,p4⟩:=p3 h0
  refine⟨a,ha,hs,fun i hi k g hg=>?_⟩
  obtain⟨g',hg',e3⟩:=e2 k g hg
  rw[← e1,← e3 j hj i hi]
  exact p4 i hi k g' hg'
theorem c0t {W:World} {r:Nat} {x y:MBlk} (h:meq x y) (hb:BR ρ W r y):BR ρ W r x:=by
 cases x with
 | gone=>trivial
 | stk xs us =>
  cases y <;> simp only[meq] at h
  obtain⟨h1,rfl⟩:=h
  exact a5r _ _ _ h1 hb
 | lup st us cd =>
  cases y <;> simp only[meq] at h
  rename_i st' us' cd'
  cases hk:c6a st st'
  ·simp[hk] at h
  ·simp only[hk,z0f] at h
   obtain⟨rfl,rfl⟩:=h
   obtain rfl:st=st':=by
    cases st <;> cases st' <;> simp[c6a] at hk <;> try rfl
    rename_i a b
    cases a <;> cases b <;> simp at hk <;> first | rfl | (rw[hk])
   exact hb
 | cells xs =>
  cases y <;> simp only[meq] at h
  obtain⟨g,t,vs,c,h1,h2,h3,h4⟩:=hb
  exact⟨g,t,vs,c,h1,h2,h3,a5r _ _ _ h h4⟩
 | old xs =>
  cases y <;> simp only[meq] at h
  rename_i ys
  obtain⟨a,c,h1,h2,h3⟩:=hb
  refine⟨a,c,h1,h2,fun j x hx=>?_⟩
  have key:∀(xs ys:List SV),a6n xs ys→∀(j:Nat) (x:SV),xs[j]?=some x→∃ y,ys[j]?=some y∧veq x y:=by
   intro xs
   induction xs with
   | nil=>intro ys _ j x hx; simp at hx
   | cons z zs ih =>
    intro ys h j x hx
    cases ys with
    | nil=>cases zs <;> simp only[a6n] at h
    | cons w ws =>
     obtain⟨e1,e2⟩:=b64 h
     cases j with
     | zero=>simp at hx; subst hx; exact⟨w,rfl,e1⟩
     | succ j=>exact ih ws e2 j x (by simpa using hx)
  obtain⟨y,hy,he⟩:=key xs ys h j x hx
  obtain⟨v,hv,hd⟩:=h3 j y hy
  exact⟨v,hv,a3l _ _ _ he hd⟩
 | arr n cols =>
  cases y <;> simp only[meq] at h
  rename_i n' cols'
  obtain⟨rfl,hc⟩:=h
  obtain⟨e1,e2⟩:=a1r hc
  obtain⟨A,c,h1,hn0,h2⟩:=hb
  refine⟨A,c,h1,hn0,fun hn=>?_⟩
  obtain⟨a,ha,hlt,h3⟩:=h2 hn
  refine⟨a,ha,hlt,fun j hj k col hk=>?_⟩
  have hk':=(z0c.1 hk).1
  obtain⟨v,hv,hd⟩:=h3 j hj k _ (z0i (by omega))
  rw[e1] at hv
  exact⟨v,hv,a2p (e2 k col _ hk (z0i (by omega))) hj hd⟩
 | oarr e n cols =>
  cases y <;> simp only[meq] at h
  rename_i e' n' cols'
  cases he:Nat.beq e e'
  ·simp[he] at h
  ·simp only[he,z0f] at h
   obtain rfl:=z0b he
   obtain⟨rfl,hc⟩:=h
   obtain⟨e1,e2⟩:=a1r hc
   obtain⟨A,c,vs,h1,h2,h2',h3,h4⟩:=hb
   rw[e1] at h2 h3 h4
   refine⟨A,c,vs,h1,h2,h2',h3,fun j hj k col hk=>?_⟩
   have hk':=(z0c.1 hk).1
   obtain⟨v,hv,hd⟩:=h4 j hj k _ (z0i (by omega))
   exact⟨v,hv,a2p (e2 k col _ hk (z0i (by omega))) hj hd⟩
 | mapi k k' f =>
  cases y <;> simp only[meq] at h
  rename_i q q' f'
  cases hk:(kEq k q && oEq k' q')
  ·rw[hk] at h; exact h.elim
  ·simp only[hk,z0f] at h
   rw[z0d] at hk
   obtain rfl:=u4.1 hk.1
   obtain rfl:=a62.1 hk.2
   have:f'=f:=funext h
   subst this
   exact hb
 | mapp f =>
  cases y <;> simp only[meq] at h
  rename_i f'
  have:f'=f:=funext fun x=>funext fun y=>h x y
  subst this
  exact hb
 | fmapp f =>
  cases y <;> simp only[meq] at h
  rename_i f'
  have:f'=f:=funext fun x=>funext fun y=>h x y
  subst this
  exact hb
 | iterp f c =>
  cases y <;> simp only[meq] at h
  rename_i f' c'
  have:f'=f:=funext fun x=>funext fun y=>h.1 x y
  subst this
  obtain⟨g,b,since,seen,c0,es,clock,cc,h1,h2,h3,h4,h5,h6,h7⟩:=hb
  refine⟨g,b,since,seen,c0,es,clock,cc,h1,h2,h3,h4,h5,h6,fun p hp=>?_⟩
  subst hp
  exact h7 p h.2
 | orows e q n hh lk len gs =>
  cases y <;> simp only[meq] at h
  rename_i e' q' n' hh' lk' len' gs'
  cases hk:(Nat.beq e e' && Nat.beq q q' && hEq hh hh' && d3l lk lk')
  ·rw[hk] at h; exact h.elim
  ·simp only[hk,z0f] at h
   simp only[z0d] at hk
   obtain⟨⟨⟨k1,k2⟩,k3⟩,k4⟩:=hk
   obtain rfl:=z0b k1
   obtain rfl:=z0b k2
   have heq:∀ {a b:Option Nat},hEq a b=true→b=a:=fun {a b} h=>by
    cases a <;> cases b <;> simp[hEq] at h <;> first | rfl | (rw[h])
   obtain rfl:=heq k3
   obtain⟨rfl,hl,hr⟩:=h
   obtain⟨e1,e2⟩:=b3v hr
   obtain⟨A,c,vs,h1,h2,h3,h4,h5,h6,h7⟩:=hb
   refine⟨A,c,vs,h1,h2,h3,by omega,fun j hj hn=>?_,h6,fun j p hj hp=>?_⟩
   ·obtain⟨B,d,us,f1,f2,f3,f4⟩:=h5 j hj hn
    rw[hl j hj] at f1 f2 f4
    rw[e1] at f2 f4
    refine⟨B,d,us,f1,f2,f3,fun i hi k g hg=>?_⟩
    obtain⟨g',hg',e3⟩:=e2 k g hg
    rw[← e3 j hj i hi]
    exact f4 i hi k g' hg'
   ·subst hp
    have hlk:lk'=some p:=by
     cases lk' <;> simp[d3l] at k4
     rw[k4]
    subst hlk
    obtain⟨B,d,f1,f2,f3⟩:=h7 j p hj rfl
    by_cases hjn:j < n'
    ·rw[hl j hjn] at f2 f3
     exact⟨B,d,f1,f2,f3⟩
    ·have hlv:=h2.1
     rw[List.getElem?_eq_none (by rw[Nat.mul_one] at hlv; omega)] at f2
     cases f2
theorem a9b {x y:MBlk} (h:meq x y) (ho:l7 x=true):l7 y=true:=by
 cases x <;> simp[l7] at ho <;> cases y <;> simp only[meq] at h <;> rfl
theorem BR.lt {σ:Env} {W:World} {r n:Nat} {k:MBlk} (h:BR ρ W r k) (hr:r < n) (hk:a0r n [k]=true) (hle:∀ r y,r < n→ρ r=some y→σ r=some y) (hS:σ.S=ρ.S) (hT:σ.T=ρ.T) (hX:∀ g,ρ.X r g→σ.X r g):BR σ W r k:=by
 have hR:σ.R=ρ.R:=by unfold Env.R; rw[hS,hT]
 cases k with
 | cells cs =>
  simp only[a0r,z1x] at hk
  obtain⟨g,t,vs,c,h1,h2,h3,h4⟩:=h
  exact⟨g,t,vs,c,hle _ _ hr h1,by rw[hS]; exact h2,h3,h4.1,fun j x v hx hv=>a05 (a23 hk hx) hle (h4.2 j x v hx hv)⟩
 | old cs =>
  simp only[a0r,z1x] at hk
  obtain⟨a,c,h1,h2,h3⟩:=h
  refine⟨a,c,hle _ _ hr h1,by rw[hS]; exact h2,fun j x hx=>?_⟩
  obtain⟨v,hv,hd⟩:=h3 j x hx
  exact⟨v,hv,a05 (a23 hk hx) hle hd⟩
 | arr n cols =>
  obtain⟨A,c,h1,h2⟩:=h
  exact⟨A,c,hle _ _ hr h1,by rw[hS,hR]; exact h2⟩
 | oarr e n cols =>
  obtain⟨A,c,vs,h1,h2⟩:=h
  exact⟨A,c,vs,hle _ _ hr h1,by rw[hS,hR]; exact h2⟩
 | mapi k k' f =>
  obtain⟨g,es,clock,c,h1,h2,h3⟩:=h
  exact⟨g,es,clock,c,hle _ _ hr h1,by rw[hS]; exact h2,h3⟩
 | mapp f =>
  obtain⟨g,es,clock,c,h1,h2,h3⟩:=h
  exact⟨g,es,clock,c,hle _ _ hr h1,by rw[hS]; exact h2,h3⟩
 | fmapp f =>
  obtain⟨g,es,clock,c,h1,h2,h3⟩:=h
  exact⟨g,es,clock,c,hle _ _ hr h1,by rw[hS]; exact h2,h3⟩
 | iterp f cur =>
  obtain⟨g,b,since,seen,c0,es,clock,c,h1,h2,h3,h4,h5⟩:=h
  exact⟨g,b,since,seen,c0,es,clock,c,hle _ _ hr h1,by rw[hS]; exact h2,h3,by rw[hS]; exact h4,h5⟩
 | orows e e' n hole lk len gs =>
  obtain⟨A,c,vs,h1,h2,h3,h4,h5,h6,h7⟩:=h
  refine⟨A,c,vs,hle _ _ hr h1,h2,by rw[hS]; exact h3,h4,fun j hj hh=>?_,h6,fun j p hj hp=>?_⟩
  ·obtain⟨B,d,us,e1,e2,e3,e4⟩:=h5 j hj hh
   exact⟨B,d,us,e1,e2,fun b hb=>hX _ (e3 b hb),e4⟩
  ·subst hp
   simp only[a0r,z1x,z0u] at hk
   obtain⟨B,d,f1,f2⟩:=h7 j p hj rfl
   exact⟨B,d,hle _ _ hk f1,f2⟩
 | stk cs vs =>
  simp only[a0r,z1x] at hk
  exact⟨h.1,fun j x v hx hv=>a05 (a23 hk hx) hle (h.2 j x v hx hv)⟩
 | lup st us cd =>
  obtain⟨g,fn,D,c,h1,h2,h3⟩:=h
  exact⟨g,fn,D,c,hle _ _ hr h1,by rw[hS]; exact h2,h3⟩
 | gone=>trivial
theorem c0s {n:Nat} {x:MBlk} {m:List MBlk} (h:a0r n (x :: m)=true):a0r n [x]=true∧a0r n m=true:=by
 cases x with
 | orows e e' k hole lk len gs =>
  cases lk with
  | none=>exact⟨rfl,h⟩
  | some q=>simp only[a0r,z0d] at h ⊢; exact⟨⟨h.1,trivial⟩,h.2⟩
 | cells cs=>simp only[a0r,z0d] at h ⊢; exact⟨⟨h.1,trivial⟩,h.2⟩
 | old cs=>simp only[a0r,z0d] at h ⊢; exact⟨⟨h.1,trivial⟩,h.2⟩
 | stk cs vs=>simp only[a0r,z0d] at h ⊢; exact⟨⟨h.1,trivial⟩,h.2⟩
 | _=>exact⟨rfl,h⟩
theorem b09 {n:Nat} {m:List MBlk} (h:a0r n m=true) {r:Nat} {k:MBlk} (hk:m[r]?=some k):a0r n [k]=true:=by
 induction m generalizing r with
 | nil=>simp at hk
 | cons x m ih =>
  have hx:a0r n [x]=true∧a0r n m=true:=c0s h
  cases r with
  | zero=>simp at hk; subst hk; exact hx.1
  | succ r=>exact ih hx.2 (by simpa using hk)
theorem b9k {n:Nat} {sl:List Slot} (h:b1z n sl=true) {d:Nat} {s:Slot} (hs:sl[d]?=some s):s.sv.ltB n=true:=by
 induction sl generalizing d with
 | nil=>simp at hs
 | cons x r ih =>
  simp only[b1z,z0d] at h
  cases d with
  | zero=>simp at hs; subst hs; exact h.1
  | succ d=>exact ih h.2 (by simpa using hs)
theorem b7k:∀ {hs ss:List Slot},a1v hs ss→ss.length=hs.length:=by
 intro hs
 induction hs with
 | nil=>intro ss h; cases ss with
  | nil=>rfl
  | cons=>simp only[a1v] at h
 | cons x xs ih =>
  intro ss h
  cases ss with
  | nil=>simp only[a1v] at h
  | cons s ss =>
   simp only[a1v] at h
   split at h
   ·simp[ih h]
   ·split at h
    ·simp[ih h.2]
    ·exact h.elim
theorem b7j:∀ {hs ss:List Slot},a1v hs ss→∀ {d:Nat} {h:Slot},hs[d]?=some h→h.sv=.dead∨∃ s,ss[d]?=some s∧s.ch=[]∧veq h.sv s.sv:=by
 intro hs
 induction hs with
 | nil=>intro ss _ d h hd; simp at hd
 | cons x xs ih =>
  intro ss hall d h hd
  cases ss with
  | nil=>simp only[a1v] at hall
  | cons s ss =>
   simp only[a1v] at hall
   split at hall
   ·rename_i hx
    cases d with
    | zero=>simp at hd; subst hd; exact .inl hx
    | succ d=>exact ih hall (by simpa using hd)
   ·split at hall
    ·rename_i hc
     cases d with
     | zero=>simp at hd; subst hd; exact .inr ⟨s,rfl,hc,hall.1⟩
     | succ d=>exact ih hall.2 (by simpa using hd)
    ·exact hall.elim
theorem a4c:∀ {hs ss:List MBlk},a61 hs ss→∀ {d:Nat} {h:MBlk},hs[d]?=some h→h=.gone∨∃ s,ss[d]?=some s∧meq h s:=by
 intro hs
 induction hs with
 | nil=>intro ss _ d h hd; simp at hd
 | cons x xs ih =>
  intro ss hall d h hd
  cases ss with
  | nil=>simp only[a61] at hall
  | cons s ss =>
   simp only[a61] at hall
   split at hall
   ·cases d with
    | zero=>simp at hd; subst hd; exact .inl rfl
    | succ d=>exact ih hall (by simpa using hd)
   ·cases d with
    | zero=>simp at hd; subst hd; exact .inr ⟨s,rfl,hall.1⟩
    | succ d=>exact ih hall.2 (by simpa using hd)
theorem b9j {sl:List Slot} {ps:List (Nat × SV)} (h:a9o sl ps) {d:Nat} {x:SV} (hx:(d,x)∈ps):x=.dead∨∃ s,sl[d]?=some s∧s.ch=[]∧veq x s.sv:=by
 induction ps with
 | nil=>cases hx
 | cons p ps ih =>
  obtain⟨e,y⟩:=p
  simp only[a9o,t0] at h
  rcases z0s.1 hx with hx | hx
  ·simp only[z0g] at hx
   obtain⟨rfl,rfl⟩:=hx
   have h1:=h.1
   split at h1
   ·rename_i s hs
    split at h1
    ·rename_i hc
     exact .inr ⟨s,hs,hc,h1⟩
    ·split at h1
     ·exact .inl rfl
     ·exact h1.elim
   ·exact h1.elim
  ·exact ih h.2 hx
theorem b08 {m:List MBlk} {ps:List (Nat × MBlk)} (h:b8j m ps) {d:Nat} {x:MBlk} (hx:(d,x)∈ps):∃ s,m[d]?=some s∧meq x s:=by
 induction ps with
 | nil=>cases hx
 | cons p ps ih =>
  obtain⟨e,y⟩:=p
  simp only[b8j,t0] at h
  rcases z0s.1 hx with hx | hx
  ·simp only[z0g] at hx
   obtain⟨rfl,rfl⟩:=hx
   have h1:=h.1
   split at h1
   ·rename_i s hs; exact⟨s,hs,h1⟩
   ·exact h1.elim
  ·exact ih h.2 hx
theorem a1m (ps:List (Nat × SV)) (ws kill:List Nat):∀(sl:List Slot) (d0 d:Nat),(a0j ps ws kill d0 sl)[d]?=(sl[d]?).map (fun s=>match g7 ps (d0 + d) with
  | some v=>⟨[],v⟩
  | none=>bif y4 (d0 + d) ws then⟨[],.dead⟩ else(match s.ch with
   | []=>⟨[],a3w kill s.sv⟩
   | _=>⟨[],.dead⟩)):=by
 intro sl
 induction sl with
 | nil=>intro d0 d; simp[a0j]
 | cons s r ih =>
  intro d0 d
  cases d with
  | zero=>simp[a0j]; rfl
  | succ d =>
   simp only[a0j,z1t,ih]
   rw[show d0 + 1 + d=d0 + (d + 1) by omega]
theorem a16 (ps:List (Nat × SV)) (ws kill:List Nat):∀(sl:List Slot) (d0:Nat),(a0j ps ws kill d0 sl).length=sl.length:=by
 intro sl
 induction sl with
 | nil=>intro d0; rfl
 | cons s r ih=>intro d0; simp[a0j,ih]
theorem z4 (ps:List (Nat × MBlk)) (kill:List Nat):∀(m:List MBlk) (d0 d:Nat),(a0p ps kill d0 m)[d]?=(m[d]?).map (fun k=>match g7 ps (d0 + d) with
  | some v=>v
  | none=>l9 kill k):=by
 intro m
 induction m with
 | nil=>intro d0 d; simp[a0p]
 | cons s r ih =>
  intro d0 d
  cases d with
  | zero=>simp[a0p]; rfl
  | succ d =>
   simp only[a0p,z1t,ih]
   rw[show d0 + 1 + d=d0 + (d + 1) by omega]
theorem v7 (ps:List (Nat × MBlk)) (kill:List Nat):∀(m:List MBlk) (d0:Nat),(a0p ps kill d0 m).length=m.length:=by
 intro m
 induction m with
 | nil=>intro d0; rfl
 | cons s r ih=>intro d0; simp[a0p,ih]
end
section
variable {P:Program} {T:Tab} {B:Lim} {w0:World} {ρ:Env} {a:Act} {W:World}
theorem c4p {L:LAnn} {ws:List Nat} {s:St} {x:L.X} (hr:Rel T B w0 ρ s.slots s.mem a W) (h1:a9o s.slots (L.slots x)) (h2:b8j s.mem (L.mem x)) :
  Rel T B w0 ρ (head L ws s x).slots (head L ws s x).mem a W:=by
 refine⟨⟨by simp only[head,a16]; exact hr.fr.len,fun d hs hd=>?_⟩,⟨hr.mr.sub,hr.mr.rows,hr.mr.hS,hr.mr.below,fun r k hk hne=>?_,fun r hne=>by simp only[head,v7]; exact hr.mr.dom r hne,fun r g hx=>by simp only[head,v7]; exact hr.mr.xlt r g hx,hr.mr.xsep,fun r g s' k a' c hx hk ho hs=>?_,?_⟩,hr.gl,hr.df⟩
 ·simp only[head,a1m,z0h,z1d] at hd
  obtain⟨s0,h0,rfl⟩:=hd
  have h00:=hr.fr.ok d s0 h0
  split
  ·rename_i v hv
   refine⟨fun _=>?_,fun hn=>absurd (fun q w hq=>by cases hq) hn⟩
   rcases b9j h1 (w5 hv) with rfl | ⟨s1,hs1,hc,he⟩
   ·exact .dead _
   ·rw[h0] at hs1
    simp only[z0a] at hs1
    subst hs1
    exact a3l _ _ _ he (h00.1 (by rw[hc]; intro q w hq; cases hq))
  ·cases hm:y4 d ws
   ·simp only[z0m]
    split
    ·rename_i hc
     exact⟨fun _=>(h00.1 (by rw[hc]; intro q w hq; cases hq)).kill (fun _ _ _ h=>h),fun hn=>absurd (fun q w hq=>by cases hq) hn⟩
    ·exact⟨fun _=>.dead _,fun hn=>absurd (fun q w hq=>by cases hq) hn⟩
   ·exact⟨fun _=>.dead _,fun hn=>absurd (fun q w hq=>by cases hq) hn⟩
 ·simp only[head,z4,z0h,z1d] at hk
  obtain⟨k0,h0,rfl⟩:=hk
  have h00:=hr.mr.blk r k0 h0 hne
  split
  ·rename_i v hv
   obtain⟨s1,hs1,he⟩:=b08 h2 (w5 hv)
   rw[h0] at hs1
   simp only[z0a] at hs1
   subst hs1
   exact c0t he h00
  ·cases k0 with
   | cells cs =>
    obtain⟨g,t,vs,c,e1,e2,e3,e4⟩:=h00
    exact⟨g,t,vs,c,e1,e2,e3,e4.kill (fun _ _ _ h=>h)⟩
   | old cs =>
    obtain⟨b,c,e1,e2,e3⟩:=h00
    refine⟨b,c,e1,e2,fun j y hy=>?_⟩
    rw[a09,z0h] at hy
    obtain⟨z,hz,rfl⟩:=hy
    obtain⟨v,hv,hd⟩:=e3 j z hz
    exact⟨v,hv,hd.kill (fun _ _ _ h=>h)⟩
   | arr n c=>exact h00
   | oarr e n c=>exact h00
   | mapi _ _ _=>exact h00
   | mapp _=>exact h00
   | fmapp _=>exact h00
   | iterp _ _=>exact h00
   | lup _ _ _=>exact h00
   | orows _ _ _ hole lk len _ =>
    obtain⟨A,c,vs,h1,h2,h3,h4,h5,h6,h7⟩:=h00
    refine⟨A,c,vs,h1,h2,h3,h4,h5,h6,fun j p hj hp=>?_⟩
    cases lk with
    | none=>simp[a4o] at hp
    | some q0 =>
     simp only[a4o] at hp
     cases hm:y4 q0 L.kill
     ·simp only[hm,z0m,z0a] at hp
      subst hp
      exact h7 j q0 hj rfl
     ·simp[hm] at hp
   | stk cs vs=>exact DenL.kill h00 (fun _ _ _ h=>h)
   | gone=>exact h00
 ·simp only[head,z4,z0h,z1d] at hk
  obtain⟨k0,h0,rfl⟩:=hk
  refine hr.mr.xown r g s' k0 a' c hx h0 ?_ hs
  split at ho
  ·rename_i v hv
   obtain⟨s1,hs1,he⟩:=b08 h2 (w5 hv)
   rw[h0] at hs1
   simp only[z0a] at hs1
   subst hs1
   exact a9b he ho
  ·cases k0 <;> first | rfl | exact ho
 ·have key:∀ {r:Nat} {k:MBlk},(head L ws s x).mem[r]?=some k→l7 k=true→∃ k0,s.mem[r]?=some k0∧l7 k0=true:=fun {r k} hk ho=>by
   simp only[head,z4,z0h,z1d] at hk
   obtain⟨k0,h0,rfl⟩:=hk
   refine⟨k0,h0,?_⟩
   split at ho
   ·rename_i v hv
    obtain⟨s1,hs1,he⟩:=b08 h2 (w5 hv)
    rw[h0] at hs1
    simp only[z0a] at hs1
    subst hs1
    exact a9b he ho
   ·cases k0 <;> first | rfl | exact ho
  intro r1 r2 k1 k2 a1 a2 c1 c2 hk1 hk2 ho1 ho2 e1 e2 hb
  obtain⟨l1,hl1,p1⟩:=key hk1 ho1
  obtain⟨l2,hl2,p2⟩:=key hk2 ho2
  exact hr.mr.sep r1 r2 l1 l2 a1 a2 c1 c2 hl1 hl2 p1 p2 e1 e2 hb
theorem c7b {h s:St} (hG:(∀ g r,g7 T.globals g=some r→r < h.mem.length)∧(∀ p,p∈T.pins→p.1 < h.mem.length)) (hch:∀(d:Nat) (s:Slot),h.slots[d]?=some s→s.ch=[]) (hr:Rel T B w0 ρ s.slots s.mem a W) (h1:a1v h.slots s.slots) (h2:a61 h.mem s.mem) (hok:b2z h=true) :
  ∃ σ,Rel T B w0 σ h.slots h.mem a W:=by
 simp only[b2z,z0d] at hok
 let σ:Env:=⟨fun r=>if r < h.mem.length then ρ r else none,ρ.S,ρ.T,fun r g=>r < h.mem.length∧ρ.X r g⟩
 have hσ:∀ r y,r < h.mem.length→ρ r=some y→σ r=some y:=fun r y hlt hy=>by simp only[σ,if_pos hlt]; exact hy
 have hσ2:∀ r y,σ r=some y→r < h.mem.length∧ρ r=some y:=fun r y hy=>by
  simp only[σ] at hy
  split at hy
  ·rename_i hlt; exact⟨hlt,hy⟩
  ·cases hy
 refine⟨σ,⟨by rw[← b7k h1]; exact hr.fr.len,fun d hs hd=>?_⟩,⟨hr.mr.sub,hr.mr.rows,hr.mr.hS,hr.mr.below,fun r k hk hne=>?_,fun r hne=>?_,fun r g hx=>⟨hx.1,(hr.mr.xlt r g hx.2).2⟩,fun r s' g hx hx'=>hr.mr.xsep r s' g hx.2 hx'.2,fun r g s' k a' c hx hk ho hs=>?_,?_⟩,⟨fun g r hg=>?_,fun p hp=>hσ _ _ (hG.2 _ hp) (hr.gl.pin p hp)⟩,hr.df⟩
 ·rcases b7j h1 hd with he | ⟨s0,h0,hc,he⟩
  ·exact⟨fun _=>by rw[he]; exact .dead _,fun hn=>absurd (fun q w hq=>by rw[hch d hs hd] at hq; cases hq) hn⟩
  ·exact⟨fun _=>a05 (b9k hok.1 hd) hσ (a3l _ _ _ he ((hr.fr.ok d s0 h0).1 (by rw[hc]; intro q w hq; cases hq))),fun hn=>absurd (fun q w hq=>by rw[hch d hs hd] at hq; cases hq) hn⟩
 ·obtain⟨y,hy⟩:=z1v.1 hne
  obtain⟨hlt,hy⟩:=hσ2 r y hy
  rcases a4c h2 hk with rfl | ⟨k0,h0,he⟩
  ·trivial
  ·exact(c0t he (hr.mr.blk r k0 h0 (by rw[hy]; simp))).lt hlt (b09 hok.2 hk) hσ rfl rfl (fun g hx=>⟨hlt,hx⟩)
 ·obtain⟨y,hy⟩:=z1v.1 hne
  exact(hσ2 r y hy).1
 ·rcases a4c h2 hk with rfl | ⟨k0,h0,he⟩
  ·simp[l7] at ho
  ·exact hr.mr.xown r g s' k0 a' c hx.2 h0 (a9b he ho) (hσ2 _ _ hs).2
 ·have key:∀ {r:Nat} {k:MBlk},h.mem[r]?=some k→l7 k=true→∃ k0,s.mem[r]?=some k0∧l7 k0=true:=fun {r k} hk ho=>by
   rcases a4c h2 hk with rfl | ⟨k0,h0,he⟩
   ·simp[l7] at ho
   ·exact⟨k0,h0,a9b he ho⟩
  intro r1 r2 k1 k2 a1 a2 c1 c2 hk1 hk2 ho1 ho2 e1 e2 hb
  obtain⟨l1,hl1,p1⟩:=key hk1 ho1
  obtain⟨l2,hl2,p2⟩:=key hk2 ho2
  exact hr.mr.sep r1 r2 l1 l2 a1 a2 c1 c2 hl1 hl2 p1 p2 (hσ2 _ _ e1).2 (hσ2 _ _ e2).2 hb
 ·obtain⟨c,hc⟩:=hr.gl.gl g r hg
  exact⟨c,hσ _ _ (hG.1 g r hg) hc⟩
theorem c7d {s:St} {e r off:Nat} (hr:Rel T B w0 ρ s.slots s.mem a W):∃ σ,Rel T B w0 σ (b1w (a0z T) e r off s).slots (b1w (a0z T) e r off s).mem a W:=by
 unfold b1w
 split
 ·rename_i cs hcs
  split
  ·rename_i q n hsl
   split
   ·rename_i k hk
    cases hc:Nat.blt e s.mem.length && (a0z T).all (fun g=>!Nat.beq g e) && !(Nat.beq e r)
    ·exact⟨ρ,hr⟩
    ·simp only[z0f]
     simp only[z0d,z0u,z2k,z0x] at hc
     obtain⟨⟨hlt,hgl⟩,her⟩:=hc
     have her:e≠r:=fun h=>by subst h; simp at her
     rw[t0] at hsl hcs
     have hmk:∃ kr,s.mem[q]?=some kr∧a3k (some kr)=some k:=by
      rw[t0] at hk
      cases hm:s.mem[q]? with
      | none=>rw[hm] at hk; simp[a3k] at hk
      | some kr=>rw[hm] at hk; exact⟨kr,rfl,hk⟩
     obtain⟨kr,hkr,hrd⟩:=hmk
     have hoff:off < cs.length:=(z0c.1 hsl).1
     have hmain:∃ Y:Option (Option Addr × Nat),(Y≠none→BR ⟨fun i=>if i=e then Y else ρ i,ρ.S,ρ.T,ρ.X⟩ W e k)∧(ρ r≠none→BR ⟨fun i=>if i=e then Y else ρ i,ρ.S,ρ.T,ρ.X⟩ W r (.cells (i4 (q9 [e] cs) off (.sl e n)))):=by
      by_cases hrn:ρ r=none
      ·exact⟨none,fun h=>absurd rfl h,fun h=>absurd hrn h⟩
      ·obtain⟨g,t,vs,cc,b1,b2,b3,b4⟩:=hr.mr.blk r _ hcs hrn
       obtain⟨vv,hvv,hdr⟩:=b4.get hsl
       have hA:∃ A c,vv=.slice A n c∧ρ q=some (A,c)∧(0 < n→A≠none):=by
        cases hdr with
        | sl h1 h2=>exact⟨_,_,rfl,h1,h2⟩
       obtain⟨A,c,hv,hρ,hA0⟩:=hA
       have hbr:=hr.mr.blk q kr hkr (by rw[hρ]; simp)
       refine⟨some (A,c),fun _=>?_,fun _=>?_⟩
       ·unfold a3k at hrd
        split at hrd
        ·rename_i n0 c0 he
         simp only[z0a] at he hrd
         subst he hrd
         obtain⟨A',c',e1,e2,e3⟩:=hbr
         rw[hρ] at e1
         simp only[z0a,z0g] at e1
         obtain⟨rfl,rfl⟩:=e1
         exact⟨A,c,if_pos rfl,e2,e3⟩
        ·simp only[z0a] at hrd
         subst hrd
         exact⟨A,c,if_pos rfl,z2j _,fun h=>absurd h (z1k 0)⟩
        ·cases hrd
       ·refine⟨g,t,vs,cc,(if_neg (fun h=>her h.symm)).trans b1,b2,b3,?_⟩
        have hkl:DenL ⟨fun i=>if i=e then some (A,c) else ρ i,ρ.S,ρ.T,ρ.X⟩ (q9 [e] cs) vs:=b4.kill fun i y hi hy=>by
         simp only[z0r] at hi
         show(if i=e then some (A,c) else ρ i)=some y
         rw[if_neg hi,hy]
        refine⟨by rw[d8]; exact hkl.1,fun j x v hx hv'=>?_⟩
        rw[j7] at hx
        split at hx
        ·rename_i hj
         simp only[z0a] at hx
         subst hx
         rw[hj.1,hvv] at hv'
         simp only[z0a] at hv'
         subst hv'
         rw[hv]
         exact .sl (if_pos rfl) hA0
        ·exact hkl.2 j x v hx hv'
     obtain⟨Y,hY1,hY2⟩:=hmain
     have hko:l7 k=false:=by
      unfold a3k at hrd
      split at hrd <;> first | (simp only[z0a] at hrd; subst hrd; rfl) | cases hrd
     let σ:Env:=⟨fun i=>if i=e then Y else ρ i,ρ.S,ρ.T,ρ.X⟩
     have hσ:∀ i y,i ∉ [e]→ρ i=some y→σ i=some y:=fun i y hi hy=>by
      simp only[z0r] at hi
      show(if i=e then Y else ρ i)=some y
      rw[if_neg hi,hy]
     have hσn:∀ i,i≠e→σ i=ρ i:=fun i hi=>if_neg hi
     have hpat:∀ i v,g7 [(e,k),(r,.cells (i4 (q9 [e] cs) off (.sl e n)))] i=some v→(i=e∧v=k)∨(i=r∧v=.cells (i4 (q9 [e] cs) off (.sl e n))):=fun i v hv=>by
      simp only[g7] at hv
      cases hb:Nat.beq e i
      ·rw[hb,z0m] at hv
       cases hb2:Nat.beq r i
       ·rw[hb2] at hv; simp at hv
       ·rw[hb2] at hv
        simp at hv
        exact .inr ⟨(z0b hb2).symm,hv.symm⟩
      ·rw[hb] at hv
       simp at hv
       exact .inl ⟨(z0b hb).symm,hv.symm⟩
     have hno:∀ i,g7 [(e,k),(r,.cells (i4 (q9 [e] cs) off (.sl e n)))] i=none→i≠e:=fun i hv h=>by
      subst h
      simp[g7] at hv
     have key:∀ {i:Nat} {k1:MBlk},(a0p [(e,k),(r,.cells (i4 (q9 [e] cs) off (.sl e n)))] [e] 0 s.mem)[i]?=some k1→l7 k1=true→i≠e∧∃ k0,s.mem[i]?=some k0∧l7 k0=true:=fun {i k1} hk1 ho=>by
      simp only[z4,z0h,z1d] at hk1
      obtain⟨k0,h0,rfl⟩:=hk1
      split at ho
      ·rename_i v hv'
       rcases hpat i v hv' with⟨_,rfl⟩ | ⟨rfl,_⟩
       ·rw[hko] at ho; cases ho
       ·exact⟨fun h=>her h.symm,_,hcs,rfl⟩
      ·rename_i hv'
       exact⟨hno i hv',k0,h0,by cases k0 <;> first | rfl | exact ho⟩
     refine⟨σ,⟨by rw[a16]; exact hr.fr.len,fun d hs hd=>?_⟩,⟨hr.mr.sub,hr.mr.rows,hr.mr.hS,hr.mr.below,fun i k1 hk1 hne1=>?_,fun i hne1=>?_,fun i g hx=>by rw[v7]; exact hr.mr.xlt i g hx,hr.mr.xsep,fun i g s' k1 a' c' hx hk1 ho hs=>?_,?_⟩,⟨fun g i hg=>?_,fun q hq=>?_⟩,hr.df⟩
     ·simp only[a1m,z0h,z1d] at hd
      obtain⟨s0,h0,rfl⟩:=hd
      have h00:=hr.fr.ok d s0 h0
      simp only[g7,y4,z0m]
      split
      ·rename_i hc
       exact⟨fun _=>(h00.1 (by rw[hc]; intro q w hq; cases hq)).kill hσ,fun hn=>absurd (fun q w hq=>by cases hq) hn⟩
      ·exact⟨fun _=>.dead _,fun hn=>absurd (fun q w hq=>by cases hq) hn⟩
     ·simp only[z4,z0h,z1d] at hk1
      obtain⟨k0,h0,rfl⟩:=hk1
      split
      ·rename_i v hv'
       rcases hpat i v hv' with⟨rfl,rfl⟩ | ⟨rfl,rfl⟩
       ·exact hY1 (by have:σ i=Y:=if_pos rfl; rw[← this]; exact hne1)
       ·exact hY2 (by rw[← hσn i (fun h=>her h.symm)]; exact hne1)
      ·rename_i hv'
       have hip:i≠e:=hno i hv'
       have h00:=hr.mr.blk i k0 h0 (by rw[← hσn i hip]; exact hne1)
       have hi:=hσn i hip
       cases k0 with
       | cells cs =>
        obtain⟨g,t,vs,c,e1,e2,e3,e4⟩:=h00
        exact⟨g,t,vs,c,by rw[hi]; exact e1,e2,e3,e4.kill hσ⟩
       | old cs =>
        obtain⟨b,c,e1,e2,e3⟩:=h00
        refine⟨b,c,by rw[hi]; exact e1,e2,fun j y hy=>?_⟩
        rw[a09,z0h] at hy
        obtain⟨z,hz,rfl⟩:=hy
        obtain⟨v,hv,hd⟩:=e3 j z hz
        exact⟨v,hv,hd.kill hσ⟩
       | arr n c=>obtain⟨A1,c1,e1,e2⟩:=h00; exact⟨A1,c1,by rw[hi]; exact e1,e2⟩
       | oarr e0 n1 c=>obtain⟨A1,c1,vs,e1,e2⟩:=h00; exact⟨A1,c1,vs,by rw[hi]; exact e1,e2⟩
       | mapi _ _ _=>obtain⟨g,es,cl,c,e1,e2⟩:=h00; exact⟨g,es,cl,c,by rw[hi]; exact e1,e2⟩
       | mapp _=>obtain⟨g,es,cl,c,e1,e2⟩:=h00; exact⟨g,es,cl,c,by rw[hi]; exact e1,e2⟩
       | fmapp _=>obtain⟨g,es,cl,c,e1,e2⟩:=h00; exact⟨g,es,cl,c,by rw[hi]; exact e1,e2⟩
       | iterp _ _=>obtain⟨g,b,s1,s2,s3,es,cl,c,e1,e2⟩:=h00; exact⟨g,b,s1,s2,s3,es,cl,c,by rw[hi]; exact e1,e2⟩
       | lup _ _ _=>obtain⟨g,fn,D,c,e1,e2⟩:=h00; exact⟨g,fn,D,c,by rw[hi]; exact e1,e2⟩
       | orows _ _ _ hole lk len _ =>
        obtain⟨A,c,vs,h1,h2,h3,h4,h5,h6,h7⟩:=h00
        refine⟨A,c,vs,by rw[hi]; exact h1,h2,h3,h4,h5,h6,fun j p' hj hp=>?_⟩
        cases lk with
        | none=>simp[a4o] at hp
        | some q0 =>
         simp only[a4o] at hp
         cases hm:y4 q0 [e]
         ·simp only[hm,z0m,z0a] at hp
          subst hp
          obtain⟨B,d,f1,f2⟩:=h7 j q0 hj rfl
          exact⟨B,d,hσ _ _ (fun h=>by rw[a0s.2 h] at hm; cases hm) f1,f2⟩
         ·simp[hm] at hp
       | stk cs vs=>exact DenL.kill h00 hσ
       | gone=>trivial
     ·rw[v7]
      by_cases he:i=e
      ·rw[he]; exact hlt
      ·exact hr.mr.dom i (by rw[← hσn i he]; exact hne1)
     ·obtain⟨n1,l1,hl1,p1⟩:=key hk1 ho
      exact hr.mr.xown i g s' l1 a' c' hx hl1 p1 (by rw[← hσn s' n1]; exact hs)
     ·intro r1 r2 k1 k2 a1 a2 c1 c2 hk1 hk2 ho1 ho2 e1 e2 hb
      obtain⟨n1,l1,hl1,p1⟩:=key hk1 ho1
      obtain⟨n2,l2,hl2,p2⟩:=key hk2 ho2
      exact hr.mr.sep r1 r2 l1 l2 a1 a2 c1 c2 hl1 hl2 p1 p2 (by rw[← hσn r1 n1]; exact e1) (by rw[← hσn r2 n2]; exact e2) hb
     ·obtain⟨c1,hc1⟩:=hr.gl.gl g i hg
      have hi:i≠e:=fun he=>by
       have:=hgl _ (a46 hg)
       rw[he] at this
       simp at this
      exact⟨c1,by rw[hσn i hi]; exact hc1⟩
     ·have hi:q.1≠e:=fun he=>by
       have:=hgl _ (a5i hq)
       rw[he] at this
       simp at this
      rw[hσn _ hi]
      exact hr.gl.pin q hq
   ·exact⟨ρ,hr⟩
  ·exact⟨ρ,hr⟩
 ·exact⟨ρ,hr⟩
theorem c7e {s:St} {e r off:Nat} (hr:Rel T B w0 ρ s.slots s.mem a W):∃ σ,Rel T B w0 σ (b1x (a0z T) e r off s).slots (b1x (a0z T) e r off s).mem a W:=by
 unfold b1x
 split
 ·rename_i cs hcs
  split
  ·rename_i q n hsl
   split
   ·rename_i e0 n0 c0 hk
    cases hc:Nat.blt e s.mem.length && (a0z T).all (fun g=>!Nat.beq g e) && !(Nat.beq e r) && !(Nat.beq q e)
    ·exact⟨ρ,hr⟩
    ·simp only[z0f]
     simp only[z0d,z0u,z2k,z0x] at hc
     obtain⟨⟨⟨hlt,hgl⟩,her⟩,hqe⟩:=hc
     have her:e≠r:=fun h=>by subst h; simp at her
     have hqe:q≠e:=fun h=>by subst h; simp at hqe
     rw[t0] at hsl hcs hk
     have hqr:q≠r:=fun h=>by subst h; rw[hcs] at hk; cases hk
     have hoff:off < cs.length:=(z0c.1 hsl).1
     have hmain:∃ Y:Option (Option Addr × Nat),(∀ y,Y=some y→ρ q=some y)∧(Y≠none→BR ⟨fun i=>if i=e then Y else ρ i,ρ.S,ρ.T,ρ.X⟩ W e (.oarr e0 n0 c0))∧(ρ r≠none→BR ⟨fun i=>if i=e then Y else ρ i,ρ.S,ρ.T,ρ.X⟩ W r (.cells (i4 (q9 [e,q] cs) off (.sl e n)))):=by
      by_cases hrn:ρ r=none
      ·exact⟨none,(fun y h=>by cases h),fun h=>absurd rfl h,fun h=>absurd hrn h⟩
      ·obtain⟨g,t,vs,cc,b1,b2,b3,b4⟩:=hr.mr.blk r _ hcs hrn
       obtain⟨vv,hvv,hdr⟩:=b4.get hsl
       have hA:∃ A c,vv=.slice A n c∧ρ q=some (A,c)∧(0 < n→A≠none):=by
        cases hdr with
        | sl h1 h2=>exact⟨_,_,rfl,h1,h2⟩
       obtain⟨A,c,hv,hρ,hA0⟩:=hA
       have hbr:=hr.mr.blk q _ hk (by rw[hρ]; simp)
       refine⟨some (A,c),fun y h=>by rw[hρ]; exact h,fun _=>?_,fun _=>?_⟩
       ·obtain⟨A',c',us,e1,e2,e3,e4,e5⟩:=hbr
        rw[hρ] at e1
        simp only[z0a,z0g] at e1
        obtain⟨rfl,rfl⟩:=e1
        exact⟨A,c,us,if_pos rfl,e2,e3,e4,e5⟩
       ·refine⟨g,t,vs,cc,(if_neg (fun h=>her h.symm)).trans b1,b2,b3,?_⟩
        have hkl:DenL ⟨fun i=>if i=e then some (A,c) else ρ i,ρ.S,ρ.T,ρ.X⟩ (q9 [e,q] cs) vs:=b4.kill fun i y hi hy=>by
         simp only[z0s,List.not_mem_nil,or_false,not_or] at hi
         show(if i=e then some (A,c) else ρ i)=some y
         rw[if_neg hi.1,hy]
        refine⟨by rw[d8]; exact hkl.1,fun j x v hx hv'=>?_⟩
        rw[j7] at hx
        split at hx
        ·rename_i hj
         simp only[z0a] at hx
         subst hx
         rw[hj.1,hvv] at hv'
         simp only[z0a] at hv'
         subst hv'
         rw[hv]
         exact .sl (if_pos rfl) hA0
        ·exact hkl.2 j x v hx hv'
     obtain⟨Y,hY0,hY1,hY2⟩:=hmain
     let σ:Env:=⟨fun i=>if i=e then Y else ρ i,ρ.S,ρ.T,ρ.X⟩
     have hσ:∀ i y,i ∉ [e,q]→ρ i=some y→σ i=some y:=fun i y hi hy=>by
      simp only[z0s,List.not_mem_nil,or_false,not_or] at hi
      show(if i=e then Y else ρ i)=some y
      rw[if_neg hi.1,hy]
     have hσn:∀ i,i≠e→σ i=ρ i:=fun i hi=>if_neg hi
     have hpat:∀ i v,g7 [(e,MBlk.oarr e0 n0 c0),(r,MBlk.cells (i4 (q9 [e,q] cs) off (.sl e n))),(q,MBlk.gone)] i=some v→(i=e∧v=MBlk.oarr e0 n0 c0)∨(i=r∧v=MBlk.cells (i4 (q9 [e,q] cs) off (.sl e n)))∨(i=q∧v=MBlk.gone):=fun i v hv=>by
      simp only[g7] at hv
      cases hb:Nat.beq e i
      ·rw[hb,z0m] at hv
       cases hb2:Nat.beq r i
       ·rw[hb2,z0m] at hv
        cases hb3:Nat.beq q i
        ·rw[hb3] at hv; simp at hv
        ·rw[hb3] at hv
         simp at hv
         exact .inr (.inr ⟨(z0b hb3).symm,hv.symm⟩)
       ·rw[hb2] at hv
        simp at hv
        exact .inr (.inl ⟨(z0b hb2).symm,hv.symm⟩)
      ·rw[hb] at hv
       simp at hv
       exact .inl ⟨(z0b hb).symm,hv.symm⟩
     have hno:∀ i,g7 [(e,MBlk.oarr e0 n0 c0),(r,MBlk.cells (i4 (q9 [e,q] cs) off (.sl e n))),(q,MBlk.gone)] i=none→i≠e∧i≠q:=fun i hv=>by
      refine⟨fun h=>?_,fun h=>?_⟩
      ·subst h
       simp[g7] at hv
      ·subst h
       simp only[g7,z2g,z0f] at hv
       cases hb:Nat.beq e i <;> rw[hb] at hv
       ·cases hb2:Nat.beq r i <;> rw[hb2] at hv <;> simp at hv
       ·simp at hv
     have key:∀ {i:Nat} {k1:MBlk},(a0p [(e,.oarr e0 n0 c0),(r,.cells (i4 (q9 [e,q] cs) off (.sl e n))),(q,.gone)] [e,q] 0 s.mem)[i]?=some k1→l7 k1=true→(i=e∧l7 (.oarr e0 n0 c0)=true)∨(i≠e∧i≠q∧∃ k0,s.mem[i]?=some k0∧l7 k0=true):=fun {i k1} hk1 ho=>by
      simp only[z4,z0h,z1d] at hk1
      obtain⟨k0,h0,rfl⟩:=hk1
      split at ho
      ·rename_i v hv'
       rcases hpat i v hv' with⟨rfl,_⟩ | ⟨rfl,_⟩ | ⟨_,rfl⟩
       ·exact .inl ⟨rfl,rfl⟩
       ·exact .inr ⟨fun h=>her h.symm,fun h=>hqr h.symm,_,hcs,rfl⟩
       ·cases ho
      ·rename_i hv'
       exact .inr ⟨(hno i hv').1,(hno i hv').2,k0,h0,by cases k0 <;> first | rfl | exact ho⟩
     have keyP:∀ {i:Nat} {k1:MBlk},(a0p [(e,.oarr e0 n0 c0),(r,.cells (i4 (q9 [e,q] cs) off (.sl e n))),(q,.gone)] [e,q] 0 s.mem)[i]?=some k1→l7 k1=true→∀ y,σ i=some y→∃ i0 k0,s.mem[i0]?=some k0∧l7 k0=true∧ρ i0=some y∧i0≠e∧(i0=q→i=e)∧(i0≠q→i=i0):=fun {i k1} hk1 ho y hy=>by
      rcases key hk1 ho with⟨rfl,_⟩ | ⟨h1,h2,k0,h3,h4⟩
      ·have hy':Y=some y:=by have h:σ i=Y:=if_pos rfl; rw[← h]; exact hy
       exact⟨q,_,hk,rfl,hY0 y hy',hqe,fun _=>rfl,fun h=>absurd rfl h⟩
      ·exact⟨i,k0,h3,h4,by rw[← hσn i h1]; exact hy,h1,fun h=>absurd h h2,fun _=>rfl⟩
     refine⟨σ,⟨by rw[a16]; exact hr.fr.len,fun d hs hd=>?_⟩,⟨hr.mr.sub,hr.mr.rows,hr.mr.hS,hr.mr.below,fun i k1 hk1 hne1=>?_,fun i hne1=>?_,fun i g hx=>by rw[v7]; exact hr.mr.xlt i g hx,hr.mr.xsep,fun i g s' k1 a' c' hx hk1 ho hs=>?_,?_⟩,⟨fun g i hg=>?_,fun q hq=>?_⟩,hr.df⟩
     ·simp only[a1m,z0h,z1d] at hd
      obtain⟨s0,h0,rfl⟩:=hd
      have h00:=hr.fr.ok d s0 h0
      simp only[g7,y4,z0m]
      split
      ·rename_i hc
       exact⟨fun _=>(h00.1 (by rw[hc]; intro q w hq; cases hq)).kill hσ,fun hn=>absurd (fun q w hq=>by cases hq) hn⟩
      ·exact⟨fun _=>.dead _,fun hn=>absurd (fun q w hq=>by cases hq) hn⟩
     ·simp only[z4,z0h,z1d] at hk1
      obtain⟨k0,h0,rfl⟩:=hk1
      split
      ·rename_i v hv'
       rcases hpat i v hv' with⟨rfl,rfl⟩ | ⟨rfl,rfl⟩ | ⟨rfl,rfl⟩
       ·exact hY1 (by have:σ i=Y:=if_pos rfl; rw[← this]; exact hne1)
       ·exact hY2 (by rw[← hσn i (fun h=>her h.symm)]; exact hne1)
       ·trivial
      ·rename_i hv'
       have hip:i≠e:=(hno i hv').1
       have h00:=hr.mr.blk i k0 h0 (by rw[← hσn i hip]; exact hne1)
       have hi:=hσn i hip
       cases k0 with
       | cells cs =>
        obtain⟨g,t,vs,c,e1,e2,e3,e4⟩:=h00
        exact⟨g,t,vs,c,by rw[hi]; exact e1,e2,e3,e4.kill hσ⟩
       | old cs =>
        obtain⟨b,c,e1,e2,e3⟩:=h00
        refine⟨b,c,by rw[hi]; exact e1,e2,fun j y hy=>?_⟩
        rw[a09,z0h] at hy
        obtain⟨z,hz,rfl⟩:=hy
        obtain⟨v,hv,hd⟩:=e3 j z hz
        exact⟨v,hv,hd.kill hσ⟩
       | arr n c=>obtain⟨A1,c1,e1,e2⟩:=h00; exact⟨A1,c1,by rw[hi]; exact e1,e2⟩
       | oarr e0 n1 c=>obtain⟨A1,c1,vs,e1,e2⟩:=h00; exact⟨A1,c1,vs,by rw[hi]; exact e1,e2⟩
       | mapi _ _ _=>obtain⟨g,es,cl,c,e1,e2⟩:=h00; exact⟨g,es,cl,c,by rw[hi]; exact e1,e2⟩
       | mapp _=>obtain⟨g,es,cl,c,e1,e2⟩:=h00; exact⟨g,es,cl,c,by rw[hi]; exact e1,e2⟩
       | fmapp _=>obtain⟨g,es,cl,c,e1,e2⟩:=h00; exact⟨g,es,cl,c,by rw[hi]; exact e1,e2⟩
       | iterp _ _=>obtain⟨g,b,s1,s2,s3,es,cl,c,e1,e2⟩:=h00; exact⟨g,b,s1,s2,s3,es,cl,c,by rw[hi]; exact e1,e2⟩
       | lup _ _ _=>obtain⟨g,fn,D,c,e1,e2⟩:=h00; exact⟨g,fn,D,c,by rw[hi]; exact e1,e2⟩
       | orows _ _ _ hole lk len _ =>
        obtain⟨A,c,vs,h1,h2,h3,h4,h5,h6,h7⟩:=h00
        refine⟨A,c,vs,by rw[hi]; exact h1,h2,h3,h4,h5,h6,fun j p' hj hp=>?_⟩
        cases lk with
        | none=>simp[a4o] at hp
        | some q0 =>
         simp only[a4o] at hp
         cases hm:y4 q0 [e,q]
         ·simp only[hm,z0m,z0a] at hp
          subst hp
          obtain⟨B,d,f1,f2⟩:=h7 j q0 hj rfl
          exact⟨B,d,hσ _ _ (fun h=>by rw[a0s.2 h] at hm; cases hm) f1,f2⟩
         ·simp[hm] at hp
       | stk cs vs=>exact DenL.kill h00 hσ
       | gone=>trivial
     ·rw[v7]
      by_cases he:i=e
      ·rw[he]; exact hlt
      ·exact hr.mr.dom i (by rw[← hσn i he]; exact hne1)
     ·obtain⟨i0,l1,hl1,p1,hy,_⟩:=keyP hk1 ho _ hs
      exact hr.mr.xown i g i0 l1 a' c' hx hl1 p1 hy
     ·intro r1 r2 k1 k2 a1 a2 c1 c2 hk1 hk2 ho1 ho2 e1 e2 hb
      obtain⟨i1,l1,hl1,p1,y1,z1,w1,x1⟩:=keyP hk1 ho1 _ e1
      obtain⟨i2,l2,hl2,p2,y2,z2,w2,x2⟩:=keyP hk2 ho2 _ e2
      have:=hr.mr.sep i1 i2 l1 l2 a1 a2 c1 c2 hl1 hl2 p1 p2 y1 y2 hb
      subst this
      by_cases hq:i1=q
      ·rw[w1 hq,w2 hq]
      ·rw[x1 hq,x2 hq]
     ·obtain⟨c1,hc1⟩:=hr.gl.gl g i hg
      have hi:i≠e:=fun he=>by
       have:=hgl _ (a46 hg)
       rw[he] at this
       simp at this
      exact⟨c1,by rw[hσn i hi]; exact hc1⟩
     ·have hi:q.1≠e:=fun he=>by
       have:=hgl _ (a5i hq)
       rw[he] at this
       simp at this
      rw[hσn _ hi]
      exact hr.gl.pin q hq
   ·exact⟨ρ,hr⟩
  ·exact⟨ρ,hr⟩
 ·exact⟨ρ,hr⟩
theorem c7f {s:St} {e d:Nat} (hr:Rel T B w0 ρ s.slots s.mem a W):∃ σ,Rel T B w0 σ (b1y (a0z T) e d s).slots (b1y (a0z T) e d s).mem a W:=by
 unfold b1y
 split
 ·rename_i q n hsl
  split
  ·rename_i e0 n0 c0 hk
   cases hc:Nat.blt e s.mem.length && (a0z T).all (fun g=>!Nat.beq g e) && !(Nat.beq q e)
   ·exact⟨ρ,hr⟩
   ·simp only[z0f]
    simp only[z0d,z0u,z2k,z0x] at hc
    obtain⟨⟨hlt,hgl⟩,hqe⟩:=hc
    have hqe:q≠e:=fun h=>by subst h; simp at hqe
    rw[t0] at hsl hk
    have hdr:=(hr.fr.ok d _ hsl).1 (fun q w hq=>by cases hq)
    generalize hvv:a.tmps.getD d undef=vv at hdr
    have hA:∃ A c,vv=.slice A n c∧ρ q=some (A,c)∧(0 < n→A≠none):=by
     cases hdr with
     | sl h1 h2=>exact⟨_,_,rfl,h1,h2⟩
    obtain⟨A,c,hv,hρ,hA0⟩:=hA
    have hbr:=hr.mr.blk q _ hk (by rw[hρ]; simp)
    let σ:Env:=⟨fun i=>if i=e then some (A,c) else ρ i,ρ.S,ρ.T,ρ.X⟩
    have hσ:∀ i y,i ∉ [e,q]→ρ i=some y→σ i=some y:=fun i y hi hy=>by
     simp only[z0s,List.not_mem_nil,or_false,not_or] at hi
     show(if i=e then some (A,c) else ρ i)=some y
     rw[if_neg hi.1,hy]
    have hσe:σ e=some (A,c):=if_pos rfl
    have hσn:∀ i,i≠e→σ i=ρ i:=fun i hi=>if_neg hi
    have hbk:BR σ W e (.oarr e0 n0 c0):=by
     obtain⟨A',c',us,e1,e2,e3,e4,e5⟩:=hbr
     rw[hρ] at e1
     simp only[z0a,z0g] at e1
     obtain⟨rfl,rfl⟩:=e1
     exact⟨A,c,us,hσe,e2,e3,e4,e5⟩
    have hpat:∀ i v,g7 [(e,MBlk.oarr e0 n0 c0),(q,MBlk.gone)] i=some v→(i=e∧v=MBlk.oarr e0 n0 c0)∨(i=q∧v=MBlk.gone):=fun i v hv=>by
     simp only[g7] at hv
     cases hb:Nat.beq e i
     ·rw[hb,z0m] at hv
      cases hb3:Nat.beq q i
      ·rw[hb3] at hv; simp at hv
      ·rw[hb3] at hv
       simp at hv
       exact .inr ⟨(z0b hb3).symm,hv.symm⟩
     ·rw[hb] at hv
      simp at hv
      exact .inl ⟨(z0b hb).symm,hv.symm⟩
    have hno:∀ i,g7 [(e,MBlk.oarr e0 n0 c0),(q,MBlk.gone)] i=none→i≠e∧i≠q:=fun i hv=>by
     refine⟨fun h=>?_,fun h=>?_⟩
     ·subst h
      simp[g7] at hv
     ·subst h
      simp only[g7,z2g,z0f] at hv
      cases hb:Nat.beq e i <;> rw[hb] at hv <;> simp at hv
    have keyP:∀ {i:Nat} {k1:MBlk},(a0p [(e,.oarr e0 n0 c0),(q,.gone)] [e,q] 0 s.mem)[i]?=some k1→l7 k1=true→∀ y,σ i=some y→∃ i0 k0,s.mem[i0]?=some k0∧l7 k0=true∧ρ i0=some y∧i0≠e∧(i0=q→i=e)∧(i0≠q→i=i0):=fun {i k1} hk1 ho y hy=>by
     simp only[z4,z0h,z1d] at hk1
     obtain⟨k0,h0,rfl⟩:=hk1
     split at ho
     ·rename_i v hv'
      rcases hpat i v hv' with⟨rfl,_⟩ | ⟨_,rfl⟩
      ·exact⟨q,_,hk,rfl,by rw[hρ]; rw[hσe] at hy; exact hy,hqe,fun _=>rfl,fun h=>absurd rfl h⟩
      ·cases ho
     ·rename_i hv'
      obtain⟨h1,h2⟩:=hno i hv'
      exact⟨i,k0,h0,by cases k0 <;> first | rfl | exact ho,by rw[← hσn i h1]; exact hy,h1,fun h=>absurd h h2,fun _=>rfl⟩
    refine⟨σ,⟨by rw[a16]; exact hr.fr.len,fun d' hs hd=>?_⟩,⟨hr.mr.sub,hr.mr.rows,hr.mr.hS,hr.mr.below,fun i k1 hk1 hne1=>?_,fun i hne1=>?_,fun i g hx=>by rw[v7]; exact hr.mr.xlt i g hx,hr.mr.xsep,fun i g s' k1 a' c' hx hk1 ho hs=>?_,?_⟩,⟨fun g i hg=>?_,fun q hq=>?_⟩,hr.df⟩
    ·simp only[a1m,z0h,z1d] at hd
     obtain⟨s0,h0,rfl⟩:=hd
     have h00:=hr.fr.ok d' s0 h0
     split
     ·rename_i v hv'
      refine⟨fun _=>?_,fun hn=>absurd (fun q w hq=>by cases hq) hn⟩
      simp only[g7] at hv'
      cases hb:Nat.beq d d'
      ·rw[hb] at hv'; simp at hv'
      ·have:d=d':=z0b hb
       subst this
       rw[hb] at hv'
       simp at hv'
       subst hv'
       rw[hvv,hv]
       exact .sl hσe hA0
     ·simp only[y4,z0m]
      split
      ·rename_i hc
       exact⟨fun _=>(h00.1 (by rw[hc]; intro q w hq; cases hq)).kill hσ,fun hn=>absurd (fun q w hq=>by cases hq) hn⟩
      ·exact⟨fun _=>.dead _,fun hn=>absurd (fun q w hq=>by cases hq) hn⟩
    ·simp only[z4,z0h,z1d] at hk1
     obtain⟨k0,h0,rfl⟩:=hk1
     split
     ·rename_i v hv'
      rcases hpat i v hv' with⟨rfl,rfl⟩ | ⟨rfl,rfl⟩
      ·exact hbk
      ·trivial
     ·rename_i hv'
      have hip:i≠e:=(hno i hv').1
      have h00:=hr.mr.blk i k0 h0 (by rw[← hσn i hip]; exact hne1)
      have hi:=hσn i hip
      cases k0 with
      | cells cs =>
       obtain⟨g,t,vs,c,e1,e2,e3,e4⟩:=h00
       exact⟨g,t,vs,c,by rw[hi]; exact e1,e2,e3,e4.kill hσ⟩
      | old cs =>
       obtain⟨b,c,e1,e2,e3⟩:=h00
       refine⟨b,c,by rw[hi]; exact e1,e2,fun j y hy=>?_⟩
       rw[a09,z0h] at hy
       obtain⟨z,hz,rfl⟩:=hy
       obtain⟨v,hv,hd⟩:=e3 j z hz
       exact⟨v,hv,hd.kill hσ⟩
      | arr n c=>obtain⟨A1,c1,e1,e2⟩:=h00; exact⟨A1,c1,by rw[hi]; exact e1,e2⟩
      | oarr e0 n1 c=>obtain⟨A1,c1,vs,e1,e2⟩:=h00; exact⟨A1,c1,vs,by rw[hi]; exact e1,e2⟩
      | mapi _ _ _=>obtain⟨g,es,cl,c,e1,e2⟩:=h00; exact⟨g,es,cl,c,by rw[hi]; exact e1,e2⟩
      | mapp _=>obtain⟨g,es,cl,c,e1,e2⟩:=h00; exact⟨g,es,cl,c,by rw[hi]; exact e1,e2⟩
      | fmapp _=>obtain⟨g,es,cl,c,e1,e2⟩:=h00; exact⟨g,es,cl,c,by rw[hi]; exact e1,e2⟩
      | iterp _ _=>obtain⟨g,b,s1,s2,s3,es,cl,c,e1,e2⟩:=h00; exact⟨g,b,s1,s2,s3,es,cl,c,by rw[hi]; exact e1,e2⟩
      | lup _ _ _=>obtain⟨g,fn,D,c,e1,e2⟩:=h00; exact⟨g,fn,D,c,by rw[hi]; exact e1,e2⟩
      | orows _ _ _ hole lk len _ =>
       obtain⟨A,c,vs,h1,h2,h3,h4,h5,h6,h7⟩:=h00
       refine⟨A,c,vs,by rw[hi]; exact h1,h2,h3,h4,h5,h6,fun j p' hj hp=>?_⟩
       cases lk with
       | none=>simp[a4o] at hp
       | some q0 =>
        simp only[a4o] at hp
        cases hm:y4 q0 [e,q]
        ·simp only[hm,z0m,z0a] at hp
         subst hp
         obtain⟨B,d,f1,f2⟩:=h7 j q0 hj rfl
         exact⟨B,d,hσ _ _ (fun h=>by rw[a0s.2 h] at hm; cases hm) f1,f2⟩
        ·simp[hm] at hp
      | stk cs vs=>exact DenL.kill h00 hσ
      | gone=>trivial
    ·rw[v7]
     by_cases he:i=e
     ·rw[he]; exact hlt
     ·exact hr.mr.dom i (by rw[← hσn i he]; exact hne1)
    ·obtain⟨i0,l1,hl1,p1,hy,_⟩:=keyP hk1 ho _ hs
     exact hr.mr.xown i g i0 l1 a' c' hx hl1 p1 hy
    ·intro r1 r2 k1 k2 a1 a2 c1 c2 hk1 hk2 ho1 ho2 e1 e2 hb
     obtain⟨i1,l1,hl1,p1,y1,z1,w1,x1⟩:=keyP hk1 ho1 _ e1
     obtain⟨i2,l2,hl2,p2,y2,z2,w2,x2⟩:=keyP hk2 ho2 _ e2
     have:=hr.mr.sep i1 i2 l1 l2 a1 a2 c1 c2 hl1 hl2 p1 p2 y1 y2 hb
     subst this
     by_cases hq:i1=q
     ·rw[w1 hq,w2 hq]
     ·rw[x1 hq,x2 hq]
    ·obtain⟨c1,hc1⟩:=hr.gl.gl g i hg
     have hi:i≠e:=fun he=>by
      have:=hgl _ (a46 hg)
      rw[he] at this
      simp at this
     exact⟨c1,by rw[hσn i hi]; exact hc1⟩
    ·have hi:q.1≠e:=fun he=>by
      have:=hgl _ (a5i hq)
      rw[he] at this
      simp at this
     rw[hσn _ hi]
     exact hr.gl.pin q hq
  ·exact⟨ρ,hr⟩
 ·exact⟨ρ,hr⟩
theorem c7c {s:St} {p:Nat × Nat} (hr:Rel T B w0 ρ s.slots s.mem a W):∃ σ,Rel T B w0 σ (b7c (a0z T) p s).slots (b7c (a0z T) p s).mem a W:=by
 unfold b7c
 cases hm3:Nat.ble 3000000 p.2
 case true=>exact c7f hr
 simp only[z0m]
 cases hm2:Nat.ble 2000000 p.2
 case true=>exact c7e hr
 simp only[z0m]
 cases hm:Nat.ble 1000000 p.2
 case true=>exact c7d hr
 simp only[z0m]
 split
 ·rename_i r n hsl
  split
  ·rename_i k hk
   cases hc:Nat.blt p.1 s.mem.length && (a0z T).all (fun g=>!Nat.beq g p.1)
   ·exact⟨ρ,hr⟩
   ·simp only[z0f]
    simp only[z0d,z0u,z2k,z0x] at hc
    obtain⟨hlt,hgl⟩:=hc
    rw[t0] at hsl
    have hdr:=(hr.fr.ok p.2 _ hsl).1 (fun q w hq=>by cases hq)
    generalize hvv:a.tmps.getD p.2 undef=vv at hdr
    have hA:∃ A c,vv=.slice A n c∧ρ r=some (A,c)∧(0 < n→A≠none):=by
     cases hdr with
     | sl h1 h2=>exact⟨_,_,rfl,h1,h2⟩
    obtain⟨A,c,hv,hρ,hA0⟩:=hA
    let σ:Env:=⟨fun i=>if i=p.1 then some (A,c) else ρ i,ρ.S,ρ.T,ρ.X⟩
    have hσ:∀ i y,i ∉ [p.1]→ρ i=some y→σ i=some y:=fun i y hi hy=>by
     simp only[z0r] at hi
     show(if i=p.1 then some (A,c) else ρ i)=some y
     rw[if_neg hi,hy]
    have hσe:σ p.1=some (A,c):=if_pos rfl
    have hσn:∀ i,i≠p.1→σ i=ρ i:=fun i hi=>if_neg hi
    have hne:ρ r≠none:=by rw[hρ]; simp
    have hmk:∃ kr,s.mem[r]?=some kr∧a3k (some kr)=some k:=by
     rw[t0] at hk
     cases hm:s.mem[r]? with
     | none=>rw[hm] at hk; simp[a3k] at hk
     | some kr=>rw[hm] at hk; exact⟨kr,rfl,hk⟩
    obtain⟨kr,hkr,hrd⟩:=hmk
    have hbr:=hr.mr.blk r kr hkr hne
    have hbk:BR σ W p.1 k:=by
     unfold a3k at hrd
     split at hrd
     ·rename_i n0 c0 he
      simp only[z0a] at he hrd
      subst he hrd
      obtain⟨A',c',e1,e2,e3⟩:=hbr
      rw[hρ] at e1
      simp only[z0a,z0g] at e1
      obtain⟨rfl,rfl⟩:=e1
      exact⟨A,c,hσe,e2,e3⟩
     ·simp only[z0a] at hrd
      subst hrd
      exact⟨A,c,hσe,z2j _,fun h=>absurd h (z1k 0)⟩
     ·cases hrd
    have hko:l7 k=false:=by
     unfold a3k at hrd
     split at hrd <;> first | (simp only[z0a] at hrd; subst hrd; rfl) | cases hrd
    have key:∀ {i:Nat} {k1:MBlk},(a0p [(p.1,k)] [p.1] 0 s.mem)[i]?=some k1→l7 k1=true→i≠p.1∧∃ k0,s.mem[i]?=some k0∧l7 k0=true:=fun {i k1} hk1 ho=>by
     simp only[z4,z0h,z1d] at hk1
     obtain⟨k0,h0,rfl⟩:=hk1
     split at ho
     ·rename_i v hv'
      simp only[g7] at hv'
      cases hb:Nat.beq p.1 i
      ·rw[hb] at hv'; simp at hv'
      ·rw[hb] at hv'
       simp at hv'
       subst hv'
       rw[hko] at ho
       cases ho
     ·rename_i hv'
      exact⟨fun e=>by subst e; simp[g7] at hv',k0,h0,by cases k0 <;> first | rfl | exact ho⟩
    refine⟨σ,⟨by rw[a16]; exact hr.fr.len,fun d hs hd=>?_⟩,⟨hr.mr.sub,hr.mr.rows,hr.mr.hS,hr.mr.below,fun i k1 hk1 hne1=>?_,fun i hne1=>?_,fun i g hx=>by rw[v7]; exact hr.mr.xlt i g hx,hr.mr.xsep,fun i g s' k1 a' c' hx hk1 ho hs=>?_,?_⟩,⟨fun g i hg=>?_,fun q hq=>?_⟩,hr.df⟩
    ·simp only[a1m,z0h,z1d] at hd
     obtain⟨s0,h0,rfl⟩:=hd
     have h00:=hr.fr.ok d s0 h0
     split
     ·rename_i v hv'
      refine⟨fun _=>?_,fun hn=>absurd (fun q w hq=>by cases hq) hn⟩
      simp only[g7] at hv'
      cases hb:Nat.beq p.2 d
      ·rw[hb] at hv'; simp at hv'
      ·have:p.2=d:=z0b hb
       subst this
       rw[hb] at hv'
       simp at hv'
       subst hv'
       rw[hvv,hv]
       exact .sl hσe hA0
     ·simp only[y4,z0m]
      split
      ·rename_i hc
       exact⟨fun _=>(h00.1 (by rw[hc]; intro q w hq; cases hq)).kill hσ,fun hn=>absurd (fun q w hq=>by cases hq) hn⟩
      ·exact⟨fun _=>.dead _,fun hn=>absurd (fun q w hq=>by cases hq) hn⟩
    ·simp only[z4,z0h,z1d] at hk1
     obtain⟨k0,h0,rfl⟩:=hk1
     split
     ·rename_i v hv'
      simp only[g7] at hv'
      cases hb:Nat.beq p.1 i
      ·rw[hb] at hv'; simp at hv'
      ·have:p.1=i:=z0b hb
       subst this
       rw[hb] at hv'
       simp at hv'
       subst hv'
       exact hbk
     ·rename_i hv'
      have hip:i≠p.1:=fun e=>by
       subst e
       simp[g7] at hv'
      have h00:=hr.mr.blk i k0 h0 (by rw[← hσn i hip]; exact hne1)
      have hi:=hσn i hip
      cases k0 with
      | cells cs =>
       obtain⟨g,t,vs,c,e1,e2,e3,e4⟩:=h00
       exact⟨g,t,vs,c,by rw[hi]; exact e1,e2,e3,e4.kill hσ⟩
      | old cs =>
       obtain⟨b,c,e1,e2,e3⟩:=h00
       refine⟨b,c,by rw[hi]; exact e1,e2,fun j y hy=>?_⟩
       rw[a09,z0h] at hy
       obtain⟨z,hz,rfl⟩:=hy
       obtain⟨v,hv,hd⟩:=e3 j z hz
       exact⟨v,hv,hd.kill hσ⟩
      | arr n c=>obtain⟨A1,c1,e1,e2⟩:=h00; exact⟨A1,c1,by rw[hi]; exact e1,e2⟩
      | oarr e n c=>obtain⟨A1,c1,vs,e1,e2⟩:=h00; exact⟨A1,c1,vs,by rw[hi]; exact e1,e2⟩
      | mapi _ _ _=>obtain⟨g,es,cl,c,e1,e2⟩:=h00; exact⟨g,es,cl,c,by rw[hi]; exact e1,e2⟩
      | mapp _=>obtain⟨g,es,cl,c,e1,e2⟩:=h00; exact⟨g,es,cl,c,by rw[hi]; exact e1,e2⟩
      | fmapp _=>obtain⟨g,es,cl,c,e1,e2⟩:=h00; exact⟨g,es,cl,c,by rw[hi]; exact e1,e2⟩
      | iterp _ _=>obtain⟨g,b,s1,s2,s3,es,cl,c,e1,e2⟩:=h00; exact⟨g,b,s1,s2,s3,es,cl,c,by rw[hi]; exact e1,e2⟩
      | lup _ _ _=>obtain⟨g,fn,D,c,e1,e2⟩:=h00; exact⟨g,fn,D,c,by rw[hi]; exact e1,e2⟩
      | orows _ _ _ hole lk len _ =>
       obtain⟨A,c,vs,h1,h2,h3,h4,h5,h6,h7⟩:=h00
       refine⟨A,c,vs,by rw[hi]; exact h1,h2,h3,h4,h5,h6,fun j p' hj hp=>?_⟩
       cases lk with
       | none=>simp[a4o] at hp
       | some q0 =>
        simp only[a4o] at hp
        cases hm:y4 q0 [p.1]
        ·simp only[hm,z0m,z0a] at hp
         subst hp
         obtain⟨B,d,f1,f2⟩:=h7 j q0 hj rfl
         exact⟨B,d,hσ _ _ (fun h=>by rw[a0s.2 h] at hm; cases hm) f1,f2⟩
        ·simp[hm] at hp
      | stk cs vs=>exact DenL.kill h00 hσ
      | gone=>trivial
    ·rw[v7]
     by_cases e:i=p.1
     ·rw[e]; exact hlt
     ·exact hr.mr.dom i (by rw[← hσn i e]; exact hne1)
    ·obtain⟨n1,l1,hl1,p1⟩:=key hk1 ho
     exact hr.mr.xown i g s' l1 a' c' hx hl1 p1 (by rw[← hσn s' n1]; exact hs)
    ·intro r1 r2 k1 k2 a1 a2 c1 c2 hk1 hk2 ho1 ho2 e1 e2 hb
     obtain⟨n1,l1,hl1,p1⟩:=key hk1 ho1
     obtain⟨n2,l2,hl2,p2⟩:=key hk2 ho2
     exact hr.mr.sep r1 r2 l1 l2 a1 a2 c1 c2 hl1 hl2 p1 p2 (by rw[← hσn r1 n1]; exact e1) (by rw[← hσn r2 n2]; exact e2) hb
    ·obtain⟨c1,hc1⟩:=hr.gl.gl g i hg
     have hi:i≠p.1:=fun e=>by
      have:=hgl _ (a46 hg)
      rw[e] at this
      simp at this
     exact⟨c1,by rw[hσn i hi]; exact hc1⟩
    ·have hi:q.1≠p.1:=fun e=>by
      have:=hgl _ (a5i hq)
      rw[e] at this
      simp at this
     rw[hσn _ hi]
     exact hr.gl.pin q hq
  ·exact⟨ρ,hr⟩
 ·exact⟨ρ,hr⟩
theorem c2m {ps:List (Nat × Nat)}:∀ {s:St} {ρ:Env},Rel T B w0 ρ s.slots s.mem a W→∃ σ,Rel T B w0 σ (a3y (a0z T) ps s).slots (a3y (a0z T) ps s).mem a W:=by
 induction ps with
 | nil=>intro s ρ hr; exact⟨ρ,hr⟩
 | cons p r ih =>
  intro s ρ hr
  obtain⟨σ,hσ⟩:=c7c (p:=p) hr
  exact ih hσ
end
end Go.Proofs.YtaeeaniofljmnaaGreatDoor.Sx

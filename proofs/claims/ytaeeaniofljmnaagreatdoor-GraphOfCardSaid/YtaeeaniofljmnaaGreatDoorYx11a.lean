/-
  A part of the proof (Yx11a).
-/
import Derived.Test.YtaeeaniofljmnaaGreatDoorYxK
namespace Go.Proofs.YtaeeaniofljmnaaGreatDoor.Sx
set_option linter.unusedSimpArgs false
set_option linter.unusedVariables false
open Go Go.RowKit
def Ex.toExit:Ex→Exit
 | .normal=>.normal
 | .ret=>.ret
 | .exit id=>.exit id
section
variable {P:Program} {T:Tab} {B:Lim} {w0:World}
theorem c9h {L:LAnn} {ws:List Nat} {s:St} {x:L.X}:∀(d:Nat) (t:Slot),(head L ws s x).slots[d]?=some t→t.ch=[]:=by
 intro d t h
 simp only[head,a1m,z0h,z1d] at h
 obtain⟨s0,_,rfl⟩:=h
 split
 ·rfl
 ·cases y4 d ws
  ·simp only[z0m]; split <;> rfl
  ·rfl
theorem b2y (f:Nat→Nat) (xs:List SV) (j:Nat):(a2k f xs)[j]?=(xs[j]?).map (u9 f):=by
 induction xs generalizing j with
 | nil=>simp[a2k]
 | cons x r ih=>cases j <;> simp[a2k,ih]
theorem a4p (f:Nat→Nat) (xs:List SV):(a2k f xs).length=xs.length:=by
 induction xs with
 | nil=>rfl
 | cons x r ih=>simp[a2k,ih]
theorem Den.ren {ρ σ:Env} {f:Nat→Nat} {x:SV} {v:Value} (h:Den ρ x v) (hle:∀ r y,ρ r=some y→σ (f r)=some y):Den σ (u9 f x) v:=by
 have L:∀ {xs:List SV} {vs:List Value},(∀(j:Nat) (x:SV) (v:Value),xs[j]?=some x→vs[j]?=some v→Den σ (u9 f x) v)→∀(j:Nat) (x:SV) (v:Value),(a2k f xs)[j]?=some x→vs[j]?=some v→Den σ x v:=fun {xs vs} ih j x v hx hv=>by
  rw[b2y,z0h] at hx
  obtain⟨y,hy,rfl⟩:=hx
  exact ih j y v hy hv
 induction h with
 | tt=>exact .tt
 | ff=>exact .ff
 | nilsl=>exact .nilsl
 | nilptr=>exact .nilptr
 | nilmap=>exact .nilmap
 | dead x=>exact .dead x
 | b x=>exact .b x
 | i k n=>exact .i k n
 | ptr h=>exact .ptr (hle _ _ h)
 | pix h=>exact .pix (hle _ _ h)
 | sl h h'=>exact .sl (hle _ _ h) h'
 | sub h h'=>exact .sub (hle _ _ h) h'
 | mp h=>exact .mp (hle _ _ h)
 | agg h1 _ ih=>exact .agg (by rw[a4p]; exact h1) (L ih)
 | tup h1 _ ih=>exact .tup (by rw[a4p]; exact h1) (L ih)
 | fn h1 _ ih=>exact .fn (by rw[a4p]; exact h1) (L ih)
 | yld h=>exact .yld (hle _ _ h)
 | v x=>exact .v x
theorem DenL.ren {ρ σ:Env} {f:Nat→Nat} {xs:List SV} {vs:List Value} (h:DenL ρ xs vs) (hle:∀ r y,ρ r=some y→σ (f r)=some y):DenL σ (a2k f xs) vs:=
 ⟨by rw[a4p]; exact h.1,fun j x v hx hv=>by
  rw[b2y,z0h] at hx
  obtain⟨y,hy,rfl⟩:=hx
  exact(h.2 j y v hy hv).ren hle⟩
theorem BR.ren {ρ σ:Env} {f:Nat→Nat} {W:World} {r:Nat} {k:MBlk} (h:BR ρ W r k) (hle:∀ r y,ρ r=some y→σ (f r)=some y) (hS:σ.S=ρ.S) (hT:σ.T=ρ.T) (hX:∀ g,ρ.X r g→σ.X (f r) g):BR σ W (f r) (b4r f k):=by
 have hR:σ.R=ρ.R:=by unfold Env.R; rw[hS,hT]
 cases k with
 | cells cs=>obtain⟨g,t,vs,c,h1,h2,h3,h4⟩:=h; exact⟨g,t,vs,c,hle _ _ h1,by rw[hS]; exact h2,h3,h4.ren hle⟩
 | old cs =>
  obtain⟨a,c,h1,h2,h3⟩:=h
  refine⟨a,c,hle _ _ h1,by rw[hS]; exact h2,fun j x hx=>?_⟩
  rw[b2y,z0h] at hx
  obtain⟨y,hy,rfl⟩:=hx
  obtain⟨v,hv,hd⟩:=h3 j y hy
  exact⟨v,hv,hd.ren hle⟩
 | arr n cols=>obtain⟨A,c,h1,h2,h3⟩:=h; exact⟨A,c,hle _ _ h1,h2,by rw[hS,hR]; exact h3⟩
 | oarr e n cols=>obtain⟨A,c,vs,h1,h2,h3,h4,h5⟩:=h; exact⟨A,c,vs,hle _ _ h1,h2,by rw[hS]; exact h3,h4,by rw[hR]; exact h5⟩
 | mapi k k' g=>obtain⟨b,es,cl,c,h1,h2,h3,h4⟩:=h; exact⟨b,es,cl,c,hle _ _ h1,by rw[hS]; exact h2,h3,h4⟩
 | mapp g=>obtain⟨b,es,cl,c,h1,h2,h3,h4⟩:=h; exact⟨b,es,cl,c,hle _ _ h1,by rw[hS]; exact h2,h3,h4⟩
 | fmapp g=>obtain⟨b,es,cl,c,h1,h2,h3,h4⟩:=h; exact⟨b,es,cl,c,hle _ _ h1,by rw[hS]; exact h2,h3,h4⟩
 | iterp l cur=>obtain⟨g,b,si,se,c0,es,cl,c,h1,h2,h3,h4,h5⟩:=h; exact⟨g,b,si,se,c0,es,cl,c,hle _ _ h1,by rw[hS]; exact h2,h3,by rw[hS]; exact h4,h5⟩
 | orows e e' n hole link len gs =>
  obtain⟨A,c,vs,h1,h2,h3,h4,h5,h6,h7⟩:=h
  refine⟨A,c,vs,hle _ _ h1,h2,by rw[hS]; exact h3,h4,fun j hj hh=>?_,h6,fun j q hj hq=>?_⟩
  ·obtain⟨B,d,us,q1,q2,q3,q4⟩:=h5 j hj hh
   exact⟨B,d,us,q1,q2,fun b hb=>hX _ (q3 b hb),q4⟩
  ·cases link with
   | none=>cases hq
   | some q0 =>
    simp only[renO,z0a] at hq
    subst hq
    obtain⟨B,d,q1,q2⟩:=h7 j q0 hj rfl
    exact⟨B,d,hle _ _ q1,q2⟩
 | stk cs vs=>exact DenL.ren h hle
 | lup st us cd=>obtain⟨g,fn,D,c,h1,h2,h3⟩:=h; exact⟨g,fn,D,c,hle _ _ h1,by rw[hS]; exact h2,h3⟩
 | gone=>trivial
theorem c0j (f:Nat→Nat) (m:List MBlk) (j:Nat):(a59 f m)[j]?=(m[j]?).map (b4r f):=by
 induction m generalizing j with
 | nil=>simp[a59]
 | cons x r ih=>cases j <;> simp[a59,ih]
theorem a52 (f:Nat→Nat) (m:List MBlk):(a59 f m).length=m.length:=by
 induction m with
 | nil=>rfl
 | cons x r ih=>simp[a59,ih]
theorem b6i (f:Nat→Nat) (sl:List Slot) (j:Nat):(a4g f sl)[j]?=(sl[j]?).map (fun s=>⟨s.ch,u9 f s.sv⟩):=by
 induction sl generalizing j with
 | nil=>simp[a4g]
 | cons x r ih=>cases j <;> simp[a4g,ih]
theorem b1g (f:Nat→Nat) (sl:List Slot):(a4g f sl).length=sl.length:=by
 induction sl with
 | nil=>rfl
 | cons x r ih=>simp[a4g,ih]
theorem b3k (f:Nat→Nat) (k:MBlk):l7 (b4r f k)=l7 k:=by cases k <;> rfl
theorem d3n {s s':St} {r:Nat} {ρ:Env} {a:Act} {W:World} (h:c6l (a0z T) r s=some s') (hr:Rel T B w0 ρ s.slots s.mem a W):∃ σ,Rel T B w0 σ s'.slots s'.mem a W:=by
 unfold c6l at h
 split at h
 ·rename_i k hk
  have hk:=p9 hk
  have hrm:=(z0c.1 hk).1
  cases hp:y4 r (a0z T)
  ·rw[hp,z0m] at h
   simp only[z0a] at h
   subst h
   generalize he:s.mem.length=e at *
   have hpr:¬ r∈a0z T:=fun h'=>by rw[a0s.2 h'] at hp; cases hp
   let σ:Env:=⟨fun i=>if i=e then ρ r else if i=r then none else ρ i,ρ.S,ρ.T,fun i g=>if i=e then ρ.X r g else if i=r then False else ρ.X i g⟩
   have fr:mvF r e r=e:=by simp[mvF]
   have fo:∀ {i:Nat},i≠r→mvF r e i=i:=fun {i} hi=>by
    have:Nat.beq i r=false:=by cases h:Nat.beq i r; rfl; exact absurd (z0b h) hi
    simp[mvF,this]
   have hne:r≠e:=by omega
   have he0:ρ e=none:=Classical.byContradiction fun hh=>by have:=hr.mr.dom _ hh; omega
   have σe:σ e=ρ r:=if_pos rfl
   have σr:σ r=none:=by simp only[σ,if_neg hne,if_pos trivial]
   have σo:∀ {i:Nat},i≠e→i≠r→σ i=ρ i:=fun {i} h1 h2=>by simp only[σ,if_neg h1,if_neg h2]
   have Xe:∀ g,σ.X e g↔ρ.X r g:=fun g=>by simp[σ]
   have Xr:∀ g,¬ σ.X r g:=fun g=>by simp[σ,hne]
   have Xo:∀ {i:Nat} {g:Nat},i≠e→i≠r→(σ.X i g↔ρ.X i g):=fun {i g} h1 h2=>by simp[σ,h1,h2]
   have hle:∀ i y,ρ i=some y→σ (mvF r e i)=some y:=fun i y hy=>by
    by_cases hi:i=r
    ·subst hi; rw[fr,σe]; exact hy
    ·rw[fo hi,σo (fun e'=>by rw[e',he0] at hy; cases hy) hi]; exact hy
   have get:∀ {i:Nat} {l:MBlk},(a59 (mvF r e) (i4 s.mem r .gone) ++ [b4r (mvF r e) k])[i]?=some l→(i=e∧l=b4r (mvF r e) k)∨(i=r∧l=.gone)∨(i≠r∧i < e∧∃ l0,s.mem[i]?=some l0∧l=b4r (mvF r e) l0):=fun {i l} hl=>by
    have hlen:(a59 (mvF r e) (i4 s.mem r .gone)).length=e:=by rw[a52,d8,he]
    by_cases hi:i < e
    ·rw[z0t (by omega),c0j,j7] at hl
     by_cases hir:i=r
     ·subst hir
      rw[if_pos ⟨rfl,by omega⟩] at hl
      exact .inr (.inl ⟨rfl,by simpa [b4r] using hl.symm⟩)
     ·rw[if_neg (by omega),z0h] at hl
      obtain⟨l0,h0,rfl⟩:=hl
      exact .inr (.inr ⟨hir,hi,l0,h0,rfl⟩)
    ·rw[z1c (by omega),hlen] at hl
     have:i - e=0:=by have:=(z0c.1 hl).1; simpa using this
     rw[this] at hl
     exact .inl ⟨by omega,by simpa using hl.symm⟩
   have src:∀ {i:Nat} {l:MBlk},(a59 (mvF r e) (i4 s.mem r .gone) ++ [b4r (mvF r e) k])[i]?=some l→l7 l=true→∃ i0 l0,s.mem[i0]?=some l0∧l7 l0=true∧σ i=ρ i0∧i=mvF r e i0:=fun {i l} hl ho=>by
    rcases get hl with⟨rfl,rfl⟩ | ⟨_,rfl⟩ | ⟨h1,h2,l0,h0,rfl⟩
    ·exact⟨r,k,hk,by rw[b3k] at ho; exact ho,σe,fr.symm⟩
    ·cases ho
    ·exact⟨i,l0,h0,by rw[b3k] at ho; exact ho,σo (by omega) h1,(fo h1).symm⟩
   have xsrc:∀ {i g:Nat},σ.X i g→∃ i0,ρ.X i0 g∧i=mvF r e i0:=fun {i g} hx=>by
    by_cases h1:i=e
    ·subst h1; exact⟨r,(Xe g).1 hx,fr.symm⟩
    ·by_cases h2:i=r
     ·subst h2; exact absurd hx (Xr g)
     ·exact⟨i,(Xo h1 h2).1 hx,(fo h2).symm⟩
   refine⟨σ,⟨by rw[b1g]; exact hr.fr.len,fun d sd hd=>?_⟩,⟨hr.mr.sub,hr.mr.rows,hr.mr.hS,hr.mr.below,fun i l hl hi=>?_,fun i hi=>?_,fun i g hx=>?_,fun i j g hx hy=>?_,fun i g j l c q hx hl ho hj=>?_,fun i j k1 k2 c1 c2 q1 q2 h1 h2 o1 o2 e1 e2 hb=>?_⟩,⟨fun g i hg=>?_,fun p hpn=>?_⟩,hr.df.step rfl (fun _ h=>h) (fun _ _=>rfl)⟩
   ·rw[b6i,z0h] at hd
    obtain⟨s0,h0,rfl⟩:=hd
    exact⟨fun hs=>((hr.fr.ok d s0 h0).1 hs).ren hle,(hr.fr.ok d s0 h0).2⟩
   ·rcases get hl with⟨rfl,rfl⟩ | ⟨rfl,rfl⟩ | ⟨h1,h2,l0,h0,rfl⟩
    ·have:=(hr.mr.blk r k hk (by rw[← σe]; exact hi)).ren (σ:=σ) (f:=mvF r i) hle rfl rfl fun g hg=>by rw[fr]; exact(Xe g).2 hg
     rwa [fr] at this
    ·exact absurd σr hi
    ·have:=(hr.mr.blk i l0 h0 (by rw[← σo (by omega) h1]; exact hi)).ren (σ:=σ) (f:=mvF r e) hle rfl rfl fun g hg=>by rw[fo h1]; exact(Xo (by omega) h1).2 hg
     rwa [fo h1] at this
   ·rw[z1b,a52,d8,he]
    by_cases h1:i=e
    ·simp; omega
    ·by_cases h2:i=r
     ·subst h2; exact absurd σr hi
     ·have:=hr.mr.dom i (by rw[← σo h1 h2]; exact hi)
      omega
   ·obtain⟨i0,h0,rfl⟩:=xsrc hx
    obtain⟨q1,q2,q3⟩:=hr.mr.xlt i0 g h0
    refine⟨?_,q2,q3⟩
    rw[z1b,a52,d8,he]
    by_cases hi:i0=r
    ·subst hi; rw[fr]; simp
    ·rw[fo hi]; omega
   ·obtain⟨i0,h0,rfl⟩:=xsrc hx
    obtain⟨j0,h1,rfl⟩:=xsrc hy
    rw[hr.mr.xsep i0 j0 g h0 h1]
   ·obtain⟨i0,h0,rfl⟩:=xsrc hx
    obtain⟨j0,l0,g1,g2,g3,rfl⟩:=src hl ho
    exact hr.mr.xown i0 g j0 l0 c q h0 g1 g2 (by rw[← g3]; exact hj)
   ·obtain⟨i0,l0,g1,g2,g3,rfl⟩:=src h1 o1
    obtain⟨j0,l1,g4,g5,g6,rfl⟩:=src h2 o2
    rw[hr.mr.sep i0 j0 l0 l1 c1 c2 q1 q2 g1 g4 g2 g5 (by rw[← g3]; exact e1) (by rw[← g6]; exact e2) hb]
   ·obtain⟨c,hc⟩:=hr.gl.gl g i hg
    have hir:i≠r:=fun e'=>hpr (e' ▸ a46 hg)
    have:=hle _ _ hc
    rw[fo hir] at this
    exact⟨c,this⟩
   ·have hc:=hr.gl.pin p hpn
    have hir:p.1≠r:=fun e'=>hpr (e' ▸ a5i hpn)
    have:=hle _ _ hc
    rwa [fo hir] at this
  ·rw[hp] at h; cases h
 ·cases h
theorem c45:∀ {gs:List Gh} {s s':St} {ρ:Env} {a:Act} {W:World},b8l (a0z T) gs s=some s'→Rel T B w0 ρ s.slots s.mem a W→∃ σ,Rel T B w0 σ s'.slots s'.mem a W:=by
 intro gs
 induction gs with
 | nil=>intro s s' ρ a W h hr; cases h; exact⟨ρ,hr⟩
 | cons g l ih =>
  intro s s' ρ a W h hr
  cases g <;> simp only[b8l] at h
  case mv r =>
   split at h
   ·rename_i s1 h1
    obtain⟨σ,h2⟩:=d3n h1 hr
    exact ih h h2
   ·cases h
  all_goals exact ih h hr
theorem c60 {m m':List MBlk} {g:Gh} {ps:List Prop} {ρ:Env} {W:World} (h:c5z m g=some (ps,m')) (hp:∀ p∈ps,p) (hm:MR B w0 W ρ m):∃ σ:Env,(∀ s y,ρ s=some y→σ s=some y)∧MR B w0 W σ m':=by
 unfold c5z at h
 split at h
 ·cases h; exact⟨ρ,fun _ _ h=>h,hm⟩
 ·rename_i r ix
  split at h
  ·rename_i e e' n lk len gs hr
   cases h
   have hix:ix < n:=hp _ (z0r.2 rfl)
   exact hm.take (p9 hr) hix
  ·cases h
 ·rename_i r off e w
  split at h
  ·rename_i cs hr
   split at h
   ·rename_i hc
    cases hw:Nat.blt 0 w
    ·rw[hw] at h; cases h
    ·rw[hw,z0f] at h
     cases h
     exact hm.fresh (p9 hr) (p9 hc) (by rwa [z0u] at hw)
   ·cases h
  ·cases h
 ·rename_i r
  split at h
  ·rename_i e n cols hr
   cases h
   exact hm.freezeArr (p9 hr)
  ·cases h
 ·rename_i r cs
  split at h
  ·rename_i e n cols hr
   cases hw:Nat.beq cs.length cols.length
   ·rw[hw] at h; cases h
   ·rw[hw,z0f] at h
    cases h
    have h0:n=0:=hp _ (z0r.2 rfl)
    subst h0
    exact⟨ρ,fun _ _ h=>h,hm.recol (p9 hr) (z0b hw)⟩
  ·cases h
 ·rename_i r
  split at h
  ·rename_i e e' n ix q len gs hr
   split at h
   ·rename_i e2 k cols hq
    split at h
    ·rename_i gl hgl
     cases hk:(Nat.beq e' e2 && Nat.beq gs.length cols.length)
     ·rw[hk] at h; cases h
     ·rw[hk,z0f] at h
      cases h
      simp only[z0d] at hk
      obtain rfl:=z0b hk.1
      have k2:=z0b hk.2
      obtain⟨g1,g2⟩:=b2d hgl
      obtain⟨u1,u2⟩:=b9u ix (gs:=gs) (gl:=gl) (by omega)
      obtain⟨σ,e1,e2⟩:=hm.putBack (p9 hr) (p9 hq) k2 (hp _ (z0r.2 rfl)) u1 (fun kk g' hg=>by
       obtain⟨g0,h0,f1,f2,rfl⟩:=u2 kk g' hg
       refine⟨fun j hj=>⟨g0,f1,?_⟩,fun _=>?_⟩
       ·have:Nat.beq j ix=false:=z0z.2 fun hb=>hj (z0b hb)
        simp[this]
       ·simp only[z2g,z0f]
        exact g2 kk h0 f2)
      exact⟨σ,fun s y hy=>by show σ.f s=some y; rw[e1]; exact hy,e2⟩
    ·cases h
   ·cases h
  ·cases h
 ·rename_i r
  split at h
  ·rename_i hr
   cases h
   exact hm.frz (p9 hr)
  ·cases h
 ·rename_i r off e e'
  split at h
  ·rename_i cs hr
   split at h
   ·rename_i hc
    cases h
    exact hm.freshR (p9 hr) (p9 hc)
   ·cases h
  ·cases h
theorem c5y:∀ {gs:List Gh} {m m':List MBlk} {ps:List Prop} {ρ:Env} {W:World},c26 gs m=some (ps,m')→(∀ p∈ps,p)→MR B w0 W ρ m→∃ σ:Env,(∀ s y,ρ s=some y→σ s=some y)∧MR B w0 W σ m':=by
 intro gs
 induction gs with
 | nil=>intro m m' ps ρ W h _ hm; cases h; exact⟨ρ,fun _ _ h=>h,hm⟩
 | cons g r ih =>
  intro m m' ps ρ W h hp hm
  simp only[c26] at h
  split at h
  ·rename_i ps1 m1 h1
   split at h
   ·rename_i qs m2 h2
    cases h
    obtain⟨σ,e1,e2⟩:=c60 h1 (fun p hx=>hp p (z0n.2 (.inl hx))) hm
    obtain⟨σ2,e3,e4⟩:=ih h2 (fun p hx=>hp p (z0n.2 (.inr hx))) e2
    exact⟨σ2,fun s y hy=>e3 s y (e1 s y hy),e4⟩
   ·cases h
  ·cases h
theorem b18 {id:Nat} {s s':St} {ps:List Prop} {ρ:Env} {a:Act} {W:World} (h:b21 T id s=some (ps,s')) (hp:∀ p∈ps,p) (hr:Rel T B w0 ρ s.slots s.mem a W):∃ σ,Rel T B w0 σ s'.slots s'.mem a W:=by
 unfold b21 at h
 split at h
 ·cases h; exact⟨ρ,hr⟩
 ·split at h
  ·rename_i ps1 m1 h1
   split at h
   ·rename_i s1 h2
    cases h
    obtain⟨σ,e1,e2⟩:=c5y h1 hp hr.mr.strong
    exact c45 h2 ⟨⟨hr.fr.len,fun d sd hd=>(hr.fr.ok d sd hd).mono e1⟩,hr.mr.back e2,hr.gl.mono e1,hr.df.step rfl e2.sub (fun _ _=>rfl)⟩
   ·cases h
  ·cases h
theorem b8o {s:St} {ops:List Oper} {left:Int→Int→Bool} {d r:Nat} {rest:List Oper} (h:b70 T s ops=some (left,d,r,rest)) :
  ∃ o x cur,ops=o :: rest∧o.op=.next x false∧o.guard=none∧o.dst=some d∧q7 T s.slots [] x=some (.ptr r 0)∧s.mem[r]?=some (.iterp left cur)∧d < s.slots.length∧s8 (some d) s.slots=true:=by
 unfold b70 at h
 split at h
 ·rename_i o rest'
  split at h
  ·rename_i x d' h1 h2 h3
   split at h
   ·rename_i r' hx
    split at h
    ·rename_i left' cur sl hm hs
     cases hd:s8 (some d') s.slots
     ·rw[hd] at h; cases h
     ·simp only[hd,z0f,z0a,z0g] at h
      obtain⟨rfl,rfl,rfl,rfl⟩:=h
      exact⟨o,x,cur,rfl,h1,h2,h3,hx,p9 hm,(z0c.1 (p9 hs)).1,hd⟩
    ·cases h
   ·cases h
  ·cases h
 ·cases h
theorem b8p {ρ:Env} {a:Act} {W:World} {s:St} {ops:Array Oper} {id:Nat} {Q:Exit→Act→World→Prop} {K:Ex→St→Prop} {left:Int→Int→Bool} {d r:Nat} {rest:List Oper} (hT:TabOk P T) (hn:b70 T s ops.toList=some (left,d,r,rest)) (hr:Rel T B w0 ρ s.slots s.mem a W)
  (h1:(∀ a b,left a b=false)→a2d T ops.toList rest ⟨i4 s.slots d ⟨[],.tup [.ff]⟩,s.mem,s.dirty⟩ K)
  (h2:∀ a b,left a b=true→a2d T ops.toList rest ⟨i4 s.slots d ⟨[],.tup [.tt,.agg [.i .i64 a,.i .i64 b],.tt]⟩,i4 s.mem r (.iterp (fun x y=>left x y && !(x == a && y == b)) (some (a,b))),s.dirty⟩ K)
  (hQ:∀ s' ρ a W,K .normal s'→Rel T B w0 ρ s'.slots s'.mem a W→Q .normal a W):(Code.region id ops false).wp P Q a W:=by
 obtain⟨o,x,cur,hops,ho,hgd,hdst,hx,hm,hlt,hdf⟩:=b8o hn
 refine wp_region_list ?_
 rw[hops]
 refine wpList_step fun Kc hK=>?_
 rw[if_pos (by simp[Region.wanted,hgd])]
 have hdx:=f7 hr.gl hx (fun t st _ hn hsat=>by rw[t0] at hn; exact(hr.fr.ok t st hn).1 hsat) (fun q w hq=>by cases hq)
 have hput:∀ sv,a58 s.slots o.dst ⟨[],sv⟩=some (i4 s.slots d ⟨[],sv⟩):=fun sv=>by
  simp only[a58,hdst,t0,z0i hlt]
 have tl:∀ {s1:St} {ρ1:Env} {a1:Act} {W1:World},a2d T ops.toList rest s1 K→Rel T B w0 ρ1 s1.slots s1.mem a1 W1→wpList P ops Q rest a1 W1:=fun {s1 ρ1 a1 W1} hk hr1=>by
  unfold a2d at hk
  split at hk
  ·rename_i ps s' hg
   obtain⟨k1,k2⟩:=a0m.1 hk
   exact a7c hT _ _ _ _ _ _ _ hg k1 hr1 fun ρ' a' W' hr'=>hQ s' ρ' a' W' k2 hr'
  ·exact hk.elim
 have two:OpTo P a o W (fun v W'=>(v=.tuple #[.bool false]∧W'=W∧∀ p q,left p q=false)∨∃ p q,v=.tuple #[.bool true,u7 p q,.bool true]∧left p q=true∧MR ⟨ρ.S,ρ.R⟩ W W' ρ (i4 s.mem r (.iterp (fun x y=>left x y && !(x == p && y == q)) (some (p,q))))):=by
  rcases c6o (P:=P) (o:=o) (a:=a) hr.mr.strong ho hdx hm with⟨e1,e2⟩ | ⟨p,q,W',e1,e2,e3⟩
  ·exact OpTo.value e2 (.inl ⟨rfl,rfl,e1⟩)
  ·exact OpTo.value e2 (.inr ⟨p,q,rfl,e1,e3⟩)
 refine two.wp fun v W' hv=>hK _ _ ?_
 rcases hv with⟨rfl,rfl,hl⟩ | ⟨p,q,rfl,hl,hmr⟩
 ·have hd2:DenL ρ [.ff] [.bool false]:=DenL.cons .ff (DenL.nil ρ)
  exact tl (h1 hl) ⟨hr.fr.put (fun _ _ h=>h) (hput _) (by rw[hdst]; exact hdf) (fun d _=>by simp) (.inl ⟨(fun q w hq=>by cases hq),.tup hd2.1 hd2.2⟩),hr.mr,hr.gl,hr.df.step (x7 _ _) (fun _ h=>h) (fun _ _=>rfl)⟩
 ·have hd1:DenL ρ [.i .i64 p,.i .i64 q] [.int .i64 p,.int .i64 q]:=DenL.cons (.i _ _) (DenL.cons (.i _ _) (DenL.nil ρ))
  have hd2:DenL ρ [.tt,.agg [.i .i64 p,.i .i64 q],.tt] [.bool true,u7 p q,.bool true]:=DenL.cons .tt (DenL.cons (.agg hd1.1 hd1.2) (DenL.cons .tt (DenL.nil ρ)))
  exact tl (h2 p q hl) ⟨hr.fr.put (fun _ _ h=>h) (hput _) (by rw[hdst]; exact hdf) (fun d _=>by simp) (.inl ⟨(fun q w hq=>by cases hq),.tup hd2.1 hd2.2⟩),hr.mr.back hmr,hr.gl,hr.df.step (x7 _ _) (fun _ h=>h) hmr.below.block⟩
theorem c0u {ρ:Env} {a:Act} {W:World} {s:St} {ops:Array Oper} {id:Nat} {Q:Exit→Act→World→Prop} {K:Ex→St→Prop} {n d:Nat} {rest:List Oper} (hT:TabOk P T) (hn:b5j T s ops.toList=some (n,d,rest)) (hr:Rel T B w0 ρ s.slots s.mem a W)
  (h1:n=0→a2d T ops.toList rest ⟨i4 s.slots d ⟨[],.tt⟩,s.mem,s.dirty⟩ K)
  (h2:a2d T ops.toList rest ⟨i4 s.slots d ⟨[],.ff⟩,s.mem,s.dirty⟩ K)
  (hQ:∀ s' ρ a W,K .normal s'→Rel T B w0 ρ s'.slots s'.mem a W→Q .normal a W):(Code.region id ops false).wp P Q a W:=by
 obtain⟨o,t,x,y,z,r,ti,hops,ho,hgd,hdst,hx,hy,hti,hk3,hlt,hdf⟩:=b3g hn
 refine wp_region_list ?_
 rw[hops]
 refine wpList_step fun Kc hK=>?_
 rw[if_pos (by simp[Region.wanted,hgd])]
 have hsat:sat a []:=fun q w hq=>by cases hq
 have hdx:=f7 hr.gl hx (fun t st _ hn hsat=>by rw[t0] at hn; exact(hr.fr.ok t st hn).1 hsat) hsat
 have hdy:=f7 hr.gl hy (fun t st _ hn hsat=>by rw[t0] at hn; exact(hr.fr.ok t st hn).1 hsat) hsat
 have hput:∀ sv,a58 s.slots o.dst ⟨[],sv⟩=some (i4 s.slots d ⟨[],sv⟩):=fun sv=>by
  simp only[a58,hdst,t0,z0i hlt]
 have tl:∀ {s1:St} {ρ1:Env} {a1:Act} {W1:World},a2d T ops.toList rest s1 K→Rel T B w0 ρ1 s1.slots s1.mem a1 W1→wpList P ops Q rest a1 W1:=fun {s1 ρ1 a1 W1} hk hr1=>by
  unfold a2d at hk
  split at hk
  ·rename_i ps s' hg
   obtain⟨k1,k2⟩:=a0m.1 hk
   exact a7c hT _ _ _ _ _ _ _ hg k1 hr1 fun ρ' a' W' hr'=>hQ s' ρ' a' W' k2 hr'
  ·exact hk.elim
 have two:OpTo P a o W (fun v W'=>W'=W∧((v=.bool true∧n=0)∨v=.bool false)):=by
  obtain⟨A,c,hρ,ex,hA⟩:=hdx.sl_inv
  have ey:a.eval y=.slice none 0 0:=by
   generalize a.eval y=w at hdy
   cases hdy
   rfl
  obtain⟨hu,_⟩:=q6 (hT.types t ti hti) hk3
  have hb:=a3h W t ti.elem A n c hu
  refine OpTo.value (v:=.bool A.isNone) (W':=W) ?_ ⟨rfl,?_⟩
  ·have hg:(eqGuard .eql t x y (.slice A n c) (.slice none 0 0)).run P W=.ok () W:=by simp[eqGuard]
   simp only[execOp,ho,ex,ey,z1a,hg,hb,z0o]
   rfl
  ·cases A with
   | none=>exact .inl ⟨rfl,Nat.eq_zero_of_not_pos fun h0=>hA h0 rfl⟩
   | some a=>exact .inr rfl
 refine two.wp fun v W' hv=>hK _ _ ?_
 obtain⟨rfl,hv⟩:=hv
 rcases hv with⟨rfl,h0⟩ | rfl
 ·exact tl (h1 h0) ⟨hr.fr.put (fun _ _ h=>h) (hput _) (by rw[hdst]; exact hdf) (fun d _=>by simp) (.inl ⟨(fun q w hq=>by cases hq),.tt⟩),hr.mr,hr.gl,hr.df.step (x7 _ _) (fun _ h=>h) (fun _ _=>rfl)⟩
 ·exact tl h2 ⟨hr.fr.put (fun _ _ h=>h) (hput _) (by rw[hdst]; exact hdf) (fun d _=>by simp) (.inl ⟨(fun q w hq=>by cases hq),.ff⟩),hr.mr,hr.gl,hr.df.step (x7 _ _) (fun _ h=>h) (fun _ _=>rfl)⟩
theorem a4l {ops:Array Oper} {Q:Exit→Act→World→Prop} {s:St} {x:List Prop × St} {ρ:Env} {a:Act} {W:World} (hT:TabOk P T) (h:a4n T ops s=some x) (hp:∀ p∈x.1,p) (hr:Rel T B w0 ρ s.slots s.mem a W)
  (hQ:∀ ρ a W,Rel T B w0 ρ x.2.slots x.2.mem a W→Q .normal a W):wpAny P .any ops (fun e a w=>e=.normal∧Q .normal a w) ops.size (Array.replicate ops.size false) a { W with drawn:=W.drawn + 1 }:=by
 obtain⟨ps,s'⟩:=x
 unfold a4n at h
 split at h
 ·rename_i y hgo
  simp only[z0a] at h
  subst h
  exact a6d (Q:=fun e a w=>e=.normal∧Q .normal a w) hT hgo hp hr fun ρ' a' W' hr'=>⟨rfl,hQ ρ' a' W' hr'⟩
 ·exact a6e hT h hp hr hQ
theorem b79 {ops:Array Oper} {id:Nat} {Q:Exit→Act→World→Prop} {K:St→Prop} {s:St} {x y z:List Prop × St} {ρ:Env} {a:Act} {W:World} (hT:TabOk P T) (h:a7j T ops s=some (x,y,z)) (hr:Rel T B w0 ρ s.slots s.mem a W)
  (hQ:∀ st:List Prop × St,∀ ρ a W,K st.2→Rel T B w0 ρ st.2.slots st.2.mem a W→Q .normal a W) (hx:a5v x.1 (K x.2)) (hy:a5v y.1 (K y.2)) (hz:a5v z.1 (K z.2)):(Code.region id ops true).wp P Q a W:=by
 unfold a7j at h
 simp only[a7j.splitAt3] at h
 generalize (b0n T ops.toList ops.toList s.slots s.mem).2.2.2.1.length=b at h
 cases hc:(b0b ops.toList (a9c (b + 2) b ops.toList.length) (b6z (b + 2) b ops.toList.length) [(b + 2,b)] && b0b ops.toList (a9c (b + 2) (b + 1) ops.toList.length) (b6z (b + 2) (b + 1) ops.toList.length) [(b,b + 2),(b + 2,b + 1)] && b0b ops.toList (a9c (b + 2) (b + 2) ops.toList.length) (b6z (b + 2) (b + 2) ops.toList.length) [(b,b + 2),(b + 1,b + 2)] && !(Nat.beq (b + 2) b) && !(Nat.beq (b + 2) (b + 1)))
 ·rw[hc] at h; cases h
 ·rw[hc,z0f] at h
  simp only[z0d] at hc
  obtain⟨⟨⟨⟨c1,c2⟩,c3⟩,_⟩,_⟩:=hc
  split at h
  ·rename_i x' y' z' e1 e2 e3
   cases h
   obtain⟨x1,x2⟩:=a0m.1 hx
   obtain⟨y1,y2⟩:=a0m.1 hy
   obtain⟨z1,z2⟩:=a0m.1 hz
   refine Code.wp_mono (Q:=fun e a w=>e=.normal∧Q .normal a w) (fun e a w hq=>by obtain⟨rfl,hq⟩:=hq; exact hq) (b7a hT.mixed (b:=b) (q:=b + 2) (by omega) (by omega) ⟨c1⟩ ⟨c2⟩ ⟨c3⟩ ?_ ?_ ?_)
   ·exact a4l hT e1 x1 hr fun ρ a W h=>hQ x ρ a W x2 h
   ·exact a4l hT e2 y1 hr fun ρ a W h=>hQ y ρ a W y2 h
   ·exact a4l hT e3 z1 hr fun ρ a W h=>hQ z ρ a W z2 h
  ·cases h
theorem c57 {n:Nat} {I:CallT→Nat→List SV→List MBlk→(SV→List MBlk→Prop)→Prop} {ops:Array Oper} {Q:Exit→Act→World→Prop} {K:St→Prop} {s:St} {ρ:Env} {a:Act} {W:World} {L:List Nat} (hT:TabOk P T) (hI:InlOk P T none I) (hr:Rel T B w0 ρ s.slots s.mem a W)
  (hQ:∀ st ρ a W,K st→Rel T B w0 ρ st.slots st.mem a W→Q .normal a W) (hv:Vd ops (Array.replicate ops.size false) L) (hl:L.length≤ops.size) :
  ∀(t:DT) (ex:List (Nat × Nat)),b4b T I ops s K t ex→(∀ p∈ex,b29 p.1 p.2 (Array.replicate ops.size false) L)→wpOpsIn (FW none) n P ops (fun e a w=>e=.normal∧Q .normal a w) L a { W with drawn:=W.drawn + 1 }:=by
 intro t
 have hsz:(Array.replicate ops.size false).size=ops.size:=by simp
 induction t with
 | leaf inv =>
  intro ex h he
  simp only[b4b] at h
  cases hm:b0b ops.toList inv (a6x inv) ex
  ·rw[hm] at h; exact h.elim
  rw[hm,z0f] at h
  have m:Mv ops inv (a6x inv) ex:=⟨hm⟩
  have hz:∀ j,(Array.replicate ops.size false).getD j false=false:=fun j=>by
   simp only[Array.getD_eq_getD_getElem?,Array.getElem?_replicate]
   split <;> rfl
  have hvd:Vd (a0d ops.toList inv (a6x inv) ex).toArray (Array.replicate (a0d ops.toList inv (a6x inv) ex).toArray.size false) (L.map (a0h (a6x inv))):=by
   rw[m.size]
   refine b8m m L _ _ hsz hsz (fun i _=>?_) hv he
   rw[hz,hz]
  have hlen:(L.map (a0h (a6x inv))).length≤(a0d ops.toList inv (a6x inv) ex).toArray.size:=by rw[m.size]; simpa using hl
  split at h
  ·rename_i x hd
   obtain⟨h1,h2⟩:=a0m.1 h
   have hw:=a4l hT hd h1 hr fun ρ' a' W' hr'=>hQ _ ρ' a' W' h2 hr'
   exact c6y (fun a w hq=>by cases hq.1) L a _ (c6m m L a _ (c8u L _ hv) (b9y _ _ _ a _ hw hvd hlen))
  ·have hw:=b55 (n:=n) (ops:=(a0d ops.toList inv (a6x inv) ex).toArray) (Q:=fun e a w=>e=.normal∧Q .normal a w) hT hI (fun hh=>absurd rfl hh) (by simpa using h) hr fun s' ρ' a' W' h2 hr'=>⟨rfl,hQ _ ρ' a' W' h2 hr'⟩
   exact c6n m L a _ (c8u L _ hv) (c1x _ _ _ a _ hw hvd hlen)
 | node x i l r ihl ihr =>
  intro ex h he
  simp only[b4b] at h
  cases hb:(Nat.beq x i || !(Nat.blt x ops.toList.length) || !(Nat.blt i ops.toList.length))
  case true=>rw[hb] at h; exact h.elim
  rw[hb,z0m] at h
  simp only[z1o,Bool.not_eq_false',z0u] at hb
  obtain⟨⟨hne,hx⟩,hi⟩:=hb
  have hne:x≠i:=fun e=>by rw[e,z2g] at hne; cases hne
  rcases c12 hne L (Array.replicate ops.size false) (by simpa using hx) (by simpa using hi) with h1 | h1
  ·exact ihl _ h.1 fun p hp=>by
    rcases z0n.1 hp with hp | hp
    ·exact he p hp
    ·rcases z0r.1 hp with rfl; exact h1
  ·exact ihr _ h.2 fun p hp=>by
    rcases z0n.1 hp with hp | hp
    ·exact he p hp
    ·rcases z0r.1 hp with rfl; exact h1
theorem b98 {n:Nat} {I:CallT→Nat→List SV→List MBlk→(SV→List MBlk→Prop)→Prop} {ops:Array Oper} {id:Nat} {Q:Exit→Act→World→Prop} {K:St→Prop} {s:St} {t:DT} {ρ:Env} {a:Act} {W:World} (hT:TabOk P T) (hI:InlOk P T none I) (h:b4b T I ops s K t []) (hr:Rel T B w0 ρ s.slots s.mem a W)
  (hQ:∀ st ρ a W,K st→Rel T B w0 ρ st.slots st.mem a W→Q .normal a W):(Code.region id ops true).wpIn (FW none) n P Q a W:=by
 refine wpIn_mono (Q:=fun e a w=>e=.normal∧Q .normal a w) ?_ (fun e a w hq=>by obtain⟨rfl,hq⟩:=hq; exact hq)
 refine wpIn_region_draw fun tp=>?_
 simp only[Region.schedule,hT.mixed,Bool.true_or,if_true]
 obtain⟨hv,hl⟩:=d2c (ops:=ops) ops.size tp (Array.replicate ops.size false) (b8w _ _)
 exact c57 hT hI hr hQ hv hl t [] h fun p hp=>by cases hp
theorem c70:∀(n d:Nat) (s:Slot),(b8y n)[d]?=some s→s=⟨[],.dead⟩:=by
 intro n
 induction n with
 | zero=>intro d s h; simp[b8y] at h
 | succ n ih =>
  intro d s h
  cases d with
  | zero=>simp[b8y] at h; exact h.symm
  | succ d=>exact ih d s (by simpa [b8y] using h)
theorem c71:∀(n:Nat),(b8y n).length=n:=by
 intro n
 induction n with
 | zero=>rfl
 | succ n ih=>simp[b8y,ih]
theorem b4l:∀(vs:List SV) (n d:Nat) (s:Slot),(a0k vs n)[d]?=some s→s.ch=[]∧((∃ v,vs[d]?=some v∧s.sv=v)∨s.sv=.dead):=by
 intro vs
 induction vs with
 | nil =>
  intro n d s h
  have:=c70 n d s h
  subst this
  exact⟨rfl,.inr rfl⟩
 | cons x r ih =>
  intro n d s h
  cases d with
  | zero=>simp[a0k] at h; subst h; exact⟨rfl,.inl ⟨x,rfl,rfl⟩⟩
  | succ d=>exact ih (n - 1) d s (by simpa [a0k] using h)
theorem b4m:∀(vs:List SV) (n:Nat),(a0k vs n).length=vs.length + (n - vs.length):=by
 intro vs
 induction vs with
 | nil=>intro n; simp[a0k,c71]
 | cons x r ih=>intro n; simp[a0k,ih]; omega
def c1b (tmps:Array Value):ResultVar→Sem Value
 | .tmp t=>pure (tmps.getD t undef)
 | .cell a t=>do loadVar t (← asAddr (tmps.getD a undef))
theorem a3g {rv:ResultVar} {sl:List Slot} {ρ:Env} {a:Act} {m:List MBlk} {W:World} (hT:TabOk P T) (hr:Rel T B w0 ρ sl m a W) {sv:SV} (h:a7a T sl m rv=some sv):∃ v,(c1b a.tmps rv).run P W=.ok v W∧Den ρ sv v:=by
 have hu:∀ {t:Nat} {v:SV},q7 T sl [] (.tmp t)=some v→Den ρ v (a.tmps.getD t undef):=fun hu=>f7 hr.gl hu (fun t st _ hn hsat=>by rw[t0] at hn; exact(hr.fr.ok t st hn).1 hsat) (fun q w hq=>by cases hq)
 cases rv with
 | tmp t=>exact⟨_,rfl,hu h⟩
 | cell t ty =>
  simp only[a7a] at h
  split at h
  ·rename_i ti r off hti hv
   split at h
   ·rename_i cs hm
    obtain⟨b,k,hb,e⟩:=(hu hv).ptr_inv
    obtain⟨g,ty',vs,k',h1,_,h3,h4⟩:=hr.mr.blk r _ (p9 hm) (by rw[hb]; simp)
    rw[hb] at h1
    simp only[z0a,z0g] at h1
    obtain⟨rfl,_⟩:=h1
    obtain⟨u,hu1,hd⟩:=a8h (W:=W) (b:=⟨g,0,none⟩) (hT.types ty ti hti) h fun j x hx=>by
     obtain⟨u,hu,hd⟩:=h4.get hx
     refine⟨u,?_,hd⟩
     have:(Addr.add ⟨g,0,none⟩ j)=⟨g,j,none⟩:=by unfold Addr.add; split <;> simp_all
     rw[this,cell_of_row W g j vs.toArray ty' (0,0) h3]
     simpa using hu
    refine⟨u,?_,hd⟩
    have e2:a.tmps.getD t undef=.pointer (some (Addr.add ⟨g,0,none⟩ off)):=e
    simp only[c1b,e2]
    simp[asAddr,hu1]
   ·cases h
  ·cases h
theorem c1d (fn:Func) (tmps:Array Value):results fn tmps=(do let vs ← fn.results.mapM (c1b tmps); pure (if h:vs.size=1 then vs[0] else .tuple vs)):=rfl
theorem c4r {fn:Func} {sl:List Slot} {ρ:Env} {a:Act} {m:List MBlk} {W:World} (hT:TabOk P T) (hr:Rel T B w0 ρ sl m a W) {sv:SV} (h:c7i T sl m fn.results.toList=some sv):∃ v,(results fn a.tmps).run P W=.ok v W∧Den ρ sv v:=by
 have ha:∀ {l:List ResultVar},fn.results.toList=l→fn.results=l.toArray:=fun h=>by rw[← h]
 rw[c1d]
 unfold c7i at h
 split at h
 ·rename_i he
  simp only[z0a] at h
  subst h
  exact⟨.tuple #[],by simp[ha he],.tup (vs:=[]) rfl (fun j x v hx=>by simp at hx)⟩
 ·rename_i t he
  obtain⟨v,h1,h2⟩:=a3g hT hr h
  exact⟨v,by simp[ha he,h1],h2⟩
 ·rename_i t u he
  split at h
  ·rename_i x y hx hy
   simp only[z0a] at h
   subst h
   obtain⟨v,h1,h2⟩:=a3g hT hr hx
   obtain⟨v',h1',h2'⟩:=a3g hT hr hy
   have:=DenL.cons h2 (DenL.cons h2' (DenL.nil ρ))
   exact⟨.tuple #[v,v'],by simp[ha he,h1,h1'],.tup this.1 this.2⟩
  ·cases h
 ·rename_i t u w he
  split at h
  ·rename_i x y z hx hy hz
   simp only[z0a] at h
   subst h
   obtain⟨v,h1,h2⟩:=a3g hT hr hx
   obtain⟨v',h1',h2'⟩:=a3g hT hr hy
   obtain⟨v'',h1'',h2''⟩:=a3g hT hr hz
   have:=DenL.cons h2 (DenL.cons h2' (DenL.cons h2'' (DenL.nil ρ)))
   exact⟨.tuple #[v,v',v''],by simp[ha he,h1,h1',h1''],.tup this.1 this.2⟩
  ·cases h
 ·cases h
structure Shut (Ds:List Nat) (W W':World):Prop where
 os:W'.os=W.os
 tape:W'.tape=W.tape
 output:W'.output=W.output
 size:W'.heap.size=W.heap.size
 block:∀ k,k ∉ Ds→W'.heap[k]?=W.heap[k]?
theorem b6r {N:Nat} {fn:Func} {tmps:Array Value} {R:Ending→World→Prop}:∀(Ds:List Nat) (W:World),Ds.Nodup→(∀ D∈Ds,W.heap[D]?=some (.deferred (some []))) →
  (∀ W',Shut Ds W W'→∃ v,(results fn tmps).run P W'=.ok v W'∧R (.returned v) W')→LeavesInM Fence.wide N P fn tmps R (Ds.map c40) .returning W:=by
 intro Ds
 induction Ds with
 | nil=>intro W _ _ h; exact h W ⟨rfl,rfl,rfl,rfl,fun _ _=>rfl⟩
 | cons D Ds ih =>
  intro W hn hD h
  obtain⟨hn1,hn2⟩:=z3q.1 hn
  refine⟨by simp,.inl ⟨D,W.putObj D (.deferred none),rfl,run_takeDeferred (hD D z1h),ih _ hn2 (fun D' hD'=>?_) fun W' hs=>h W' ⟨hs.os,hs.tape,hs.output,by rw[hs.size,World.putObj_size],fun k hk=>?_⟩⟩⟩
  ·rw[World.putObj_heap_other (fun e=>hn1 (by rw[← e]; exact hD'))]
   exact hD D' (z0w _ hD')
  ·simp only[z0s,not_or] at hk
   rw[hs.block k hk.2,World.putObj_heap_other hk.1]
theorem BR.shut {ρ:Env} {W W':World} {r:Nat} {k:MBlk} (h:BR ρ W r k) (ht:∀(g:Nat) (o:Obj),W.heap[g]?=some o→(∀ x,o≠.deferred x)→W'.heap[g]?=some o):BR ρ W' r k:=by
 have hcell:∀ {p:Addr} {v:Value},W.cell? p=some v→W'.cell? p=some v:=fun {p v} hc=>by
  obtain⟨o,ho,hx⟩:∃ o:Obj,W.heap[p.block]?=some o∧∀ x,o≠.deferred x:=by
   unfold World.cell? at hc
   cases ho:W.heap[p.block]? with
   | none=>simp[ho] at hc
   | some o=>exact⟨o,rfl,fun x e=>by subst e; simp[ho] at hc⟩
  rw[z2e (w:=W) ((ht _ _ ho hx).trans ho.symm)]
  exact hc
 have hc:∀ {col:Col} {j:Nat} {v:Value},j4 ρ.R W col j v→j4 ρ.R W' col j v:=fun {col j v} h=>by
  cases col <;> simp only[j4] at h ⊢
  ·exact h
  ·exact h
  ·obtain⟨A,c,h1,hc0,h2⟩:=h
   refine⟨A,c,h1,hc0,fun h0=>?_⟩
   obtain⟨a,ha,hs,h3⟩:=h2 h0
   exact⟨a,ha,hs,fun i hi k g hg=>hcell (h3 i hi k g hg)⟩
 have own:∀ {e sz n:Nat} {A:Option Addr} {c:Nat} {l:Nat} {vs:List Value},W.ownsRow 0 e sz (.slice A l c) n vs→W'.ownsRow 0 e sz (.slice A l c) n vs:=fun {e sz n A c l vs} h1=>by
  obtain⟨q1,q2⟩:=h1
  refine⟨q1,q2.imp id ?_⟩
  rintro ⟨g,cap,cur,hv,hg,hh,r⟩
  exact⟨g,cap,cur,hv,hg,ht _ _ hh (by simp),r⟩
 cases k with
 | cells cs =>
  obtain⟨g,t,vs,c,h1,h2,h3,h4⟩:=h
  exact⟨g,t,vs,c,h1,h2,ht _ _ h3 (by simp),h4⟩
 | old cs =>
  obtain⟨a,c,h1,h2,h3⟩:=h
  refine⟨a,c,h1,h2,fun j x hx=>?_⟩
  obtain⟨v,hv,hd⟩:=h3 j x hx
  exact⟨v,hcell hv,hd⟩
 | arr n cols =>
  obtain⟨A,c,h1,hn0,h2⟩:=h
  refine⟨A,c,h1,hn0,fun hn=>?_⟩
  obtain⟨a,ha,hlt,h3⟩:=h2 hn
  refine⟨a,ha,hlt,fun j hj k col hk=>?_⟩
  obtain⟨v,hv,hd⟩:=h3 j hj k col hk
  exact⟨v,hcell hv,hc hd⟩
 | oarr e n cols =>
  obtain⟨A,c,vs,h1,h2,h3,h4,h5⟩:=h
  refine⟨A,c,vs,h1,own h2,h3,h4,fun j hj k col hk=>?_⟩
  obtain⟨v,hv,hd⟩:=h5 j hj k col hk
  exact⟨v,hv,hc hd⟩
 | mapi k k' f =>
  obtain⟨g,es,clock,c,h1,h2,h3,h4⟩:=h
  exact⟨g,es,clock,c,h1,h2,ht _ _ h3 (by simp),h4⟩
 | mapp f =>
  obtain⟨g,es,clock,c,h1,h2,h3,h4⟩:=h
  exact⟨g,es,clock,c,h1,h2,ht _ _ h3 (by simp),h4⟩
 | fmapp f =>
  obtain⟨g,es,clock,c,h1,h2,h3,h4⟩:=h
  exact⟨g,es,clock,c,h1,h2,ht _ _ h3 (by simp),h4⟩
 | iterp f cur =>
  obtain⟨g,b,since,seen,c0,es,clock,c,h1,h2,h3,h4,h5,h6⟩:=h
  exact⟨g,b,since,seen,c0,es,clock,c,h1,h2,ht _ _ h3 (by simp),h4,ht _ _ h5 (by simp),h6⟩
 | orows e e' n hole lk len gs =>
  obtain⟨A,c,vs,h1,h2,h3,h4,h5,h6⟩:=h
  refine⟨A,c,vs,h1,own h2,h3,h4,fun j hj hh=>?_,h6⟩
  obtain⟨B,d,us,e1,e2,e3,e4⟩:=h5 j hj hh
  exact⟨B,d,us,e1,own e2,e3,e4⟩
 | stk cs vs=>exact h
 | lup st us cd =>
  obtain⟨g,fn,D,c,h1,h2,h3⟩:=h
  exact⟨g,fn,D,c,h1,h2,ht _ _ h3 (by simp)⟩
 | gone=>trivial
theorem MR.shut {ρ:Env} {W W':World} {m:List MBlk} {Ds:List Nat} (h:MR B w0 W ρ m) (hs:Shut Ds W W') (hD:∀ D∈Ds,¬ B.keep D∧W.heap[D]?=some (.deferred (some []))):MR B w0 W' ρ m:=by
 have ht:∀(g:Nat) (o:Obj),W.heap[g]?=some o→(∀ x,o≠.deferred x)→W'.heap[g]?=some o:=fun g o hg hx=>by
  by_cases hm:g∈Ds
  ·rw[(hD g hm).2] at hg
   cases hg
   exact absurd rfl (hx _)
  ·rw[hs.block g hm]; exact hg
 refine⟨h.sub,h.rows,fun g hg=>by rw[hs.size]; exact h.hS g hg,h.below.trans ⟨hs.os,hs.tape,hs.output,by rw[hs.size]; exact z0q _,fun k hk=>hs.block k (fun hm=>(hD k hm).1 hk)⟩,fun r k hk hr=>(h.blk r k hk hr).shut ht,h.dom,fun r g hx=>?_,h.xsep,h.xown,h.sep⟩
 obtain⟨q1,q2,q3⟩:=h.xlt r g hx
 exact⟨q1,q2,by rw[hs.size]; exact q3⟩
theorem a89 {f:FuncId} {fn:Func} {c:Code} {vs:List SV} {xs:List Value} {m:List MBlk} {ρ:Env} {W:World} {R:SV→List MBlk→Prop} (hT:TabOk P T) (hf:P.funcs[f]?=some fn) (hc:fn.body=some c)
  (hw:∀(a:Act) (Q:Exit→Act→World→Prop),Rel T B w0 ρ (a0k vs fn.ntmps) m a W→(∀ e s' ρ' a' W',c1e T fn.results.toList R e s'→Rel T B w0 ρ' s'.slots s'.mem a' W'→Q e.toExit a' W')→c.wpIn (FW none) 0 P Q a W) (hm:MR B w0 W ρ m) (hG:GlobOk T ρ) (hd:DenL ρ vs xs) :
  Calls P f xs.toArray W (fun e W'=>∃ v ρ' m' sv,e=.returned v∧Den ρ' sv v∧MR B w0 W' ρ' m'∧R sv m'∧GlobOk T ρ'):=by
 refine(callsIn_wide (n:=0)).1 (callsIn_of_wp_marks hf hc trivial (hw _ _ ⟨⟨?_,fun d s hs=>?_⟩,hm,hG,.nil rfl⟩ fun e s' ρ' a' W' hK hr'=>?_))
 ·simp only[b4m,Array.size_append,Array.size_replicate,List.size_toArray,hd.1]
 ·obtain⟨h1,h2⟩:=b4l _ _ _ _ hs
  refine⟨fun _=>?_,fun hn=>absurd (fun q w hq=>by rw[h1] at hq; cases hq) hn⟩
  rcases h2 with⟨v,hv1,hv2⟩ | h2
  ·obtain⟨w,hw,hdw⟩:=hd.get hv1
   have hlt:=(z0c.1 hw).1
   rw[hv2]
   have:((xs.toArray ++ Array.replicate (fn.ntmps - xs.toArray.size) undef).getD d undef)=w:=by
    rw[Array.getD_eq_getD_getElem?,Array.getElem?_append_left (by simpa using hlt)]
    simp[hw]
   rw[this]
   exact hdw
  ·rw[h2]; exact .dead _
 ·have key:c1e T fn.results.toList R .ret s'→LeavesInM Fence.wide 0 P fn a'.tmps (fun e W'=>∃ v ρ' m' sv,e=.returned v∧Den ρ' sv v∧MR B w0 W' ρ' m'∧R sv m'∧GlobOk T ρ') a'.defers .returning W':=fun hK=>by
   obtain⟨Ds,e1,e2,e3⟩:=hr'.df
   rw[e1]
   refine b6r Ds W' e2 (fun D hD=>(e3 D hD).2.2) fun W2 hs=>?_
   simp only[c1e] at hK
   split at hK
   ·rename_i sv hsv
    have hmr2:=hr'.mr.shut hs (fun D hD=>(e3 D hD).2)
    have hr2:Rel T B w0 ρ' s'.slots s'.mem { tmps:=a'.tmps,defers:=[] } W2:=⟨⟨hr'.fr.len,hr'.fr.ok⟩,hmr2,hr'.gl,.nil rfl⟩
    obtain⟨v,h1,h2⟩:=c4r hT hr2 hsv
    exact⟨v,h1,v,ρ',s'.mem,sv,rfl,h2,hmr2,hK,hr'.gl⟩
   ·exact hK.elim
  cases e with
  | exit id=>exact hK.elim
  | normal=>exact key hK
  | ret=>exact key hK
theorem MR.lupPut {ρ:Env} {W:World} {m:List MBlk} {r g c:Nat} {st:LSt} {us:List Value} {cd:LupCd} {o:Obj} {k':MBlk} (h:MR B w0 W ρ m) (hm:m[r]?=some (.lup st us cd)) (hρ:ρ r=some (some ⟨g,0,none⟩,c))
  (hk:BR ρ (W.putObj g o) r k'):MR B w0 (W.putObj g o) ρ (i4 m r k'):=by
 have hb:=h.blk r _ hm (by rw[hρ]; simp)
 obtain⟨hnS,hlt⟩:=t9 hb rfl hρ
 have hgr:W.grownBy (W.putObj g o) (some g):=⟨rfl,rfl,rfl,by simp,fun k _ hk=>World.putObj_heap_other (fun e=>hk (by rw[e]))⟩
 have key:∀ {i:Nat} {k:MBlk},(i4 m r k')[i]?=some k→(i=r∧k=k')∨(i≠r∧m[i]?=some k):=fun {i k} hi=>by
  rw[j7] at hi
  by_cases e:i=r
  ·subst e
   rw[if_pos ⟨rfl,(z0c.1 hm).1⟩] at hi
   exact .inl ⟨rfl,(Option.some.inj hi).symm⟩
  ·rw[if_neg (fun h=>e h.1)] at hi
   exact .inr ⟨e,hi⟩
 have toM:∀ {i:Nat} {k:MBlk},(i4 m r k')[i]?=some k→l7 k=true→∃ k0,m[i]?=some k0∧l7 k0=true:=fun {i k} hi ho=>by
  rcases key hi with⟨rfl,rfl⟩ | ⟨_,h1⟩
  ·exact⟨_,hm,rfl⟩
  ·exact⟨k,h1,ho⟩
 refine⟨h.sub,h.rows,fun x hx=>by simpa using h.hS x hx,h.below.trans ⟨rfl,rfl,rfl,by simp,fun k hk=>World.putObj_heap_other (fun e=>hnS (by rw[← e]; exact h.sub k hk))⟩,fun i k hi hne=>?_,fun i hi=>by rw[d8]; exact h.dom i hi,fun i x hx=>by rw[d8]; obtain⟨q1,q2,q3⟩:=h.xlt i x hx; exact⟨q1,q2,by simpa using q3⟩,h.xsep,fun i x s k a c' hx hk ho hs=>?_,fun i j k l a b c1 c2 hk hl h1 h2 h3 h4 h5=>?_⟩
 ·rcases key hi with⟨rfl,rfl⟩ | ⟨hir,h1⟩
  ·exact hk
  ·refine(h.blk i k h1 hne).other h.hS (fun x hx=>by cases hx; exact hnS) hgr (fun a c' ho ha e=>?_) (fun x hx e=>?_)
   ·simp only[z0a] at e
    exact hir (h.sep i r k _ a ⟨g,0,none⟩ c' c h1 hm ho rfl ha hρ e.symm)
   ·simp only[z0a] at e
    exact h.xown i x r _ ⟨g,0,none⟩ c hx hm rfl hρ e
 ·obtain⟨k0,q1,q2⟩:=toM hk ho
  exact h.xown i x s k0 a c' hx q1 q2 hs
 ·obtain⟨k0,q1,q2⟩:=toM hk h1
  obtain⟨l0,q3,q4⟩:=toM hl h2
  exact h.sep i j k0 l0 a b c1 c2 q1 q3 q2 q4 h3 h4 h5
theorem b2w (t:Array Value) (p:Nat) (v:Value) (j:Nat):(t.setIfInBounds p v).toList[j]?=if j=p∧p < t.toList.length then some v else t.toList[j]?:=by
 rw[z3k,Array.getElem?_setIfInBounds,z3k,Array.length_toList]
 by_cases e:p=j
 ·subst e
  by_cases h:p < t.size
  ·simp[h]
  ·simp[h]
 ·rw[if_neg e,if_neg (fun h=>e h.1.symm)]
theorem c52 {ρ:Env}:∀(ps:List Tmp) (vs:List SV) (cs cs':List SV) (xs:List Value) (t:Array Value),b40 ps vs cs=some cs'→DenL ρ vs xs→DenL ρ cs t.toList→ps.length=xs.length∧DenL ρ cs' ((ps.zip xs).foldl (fun t (p:Tmp × Value)=>t.setIfInBounds p.1 p.2) t).toList:=by
 intro ps
 induction ps with
 | nil =>
  intro vs cs cs' xs t h hd hc
  cases vs <;> simp only[b40] at h
  ·cases h; rw[hd.inv_nil]; exact⟨rfl,hc⟩
  ·cases h
 | cons p ps ih =>
  intro vs cs cs' xs t h hd hc
  cases vs with
  | nil=>simp[b40] at h
  | cons v vs =>
   obtain⟨x,xs,rfl,d1,d2⟩:=hd.inv
   simp only[b40] at h
   have:DenL ρ (i4 cs p v) (t.setIfInBounds p x).toList:=by
    have hl:=hc.1
    refine⟨by rw[d8]; simpa using hl,fun j y u hy hu=>?_⟩
    rw[j7] at hy
    rw[b2w] at hu
    by_cases e:j=p∧p < cs.length
    ·rw[if_pos e] at hy
     rw[if_pos ⟨e.1,Nat.lt_of_lt_of_eq e.2 hl.symm⟩] at hu
     cases hy; cases hu
     exact d1
    ·rw[if_neg e] at hy
     rw[if_neg (fun h=>e ⟨h.1,Nat.lt_of_lt_of_eq h.2 hl⟩)] at hu
     exact hc.2 j y u hy hu
   obtain⟨q1,q2⟩:=ih vs _ _ xs _ h d2 this
   exact⟨by simp[q1],q2⟩
theorem InlOk.none {ro:Option Nat}:InlOk P T ro (fun _ _ _ _ _=>False):=⟨fun _ _ _ _ _ _ _ _ _ _ _ h=>h.elim,fun _ _ _ _ _ _ _ _ _ _ _ _ _ h=>h.elim⟩
end
end Go.Proofs.YtaeeaniofljmnaaGreatDoor.Sx

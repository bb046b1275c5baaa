/-
  A part of the proof (Yx14).
-/
import Derived.Test.YtaeeaniofljmnaaGreatDoorYx11
import Derived.ChangeArms
import Derived.LaidLaws
import Derived.Carry
import Derived.Below
import Derived.ChangeSame
import Derived.OpenShut
namespace Go.Proofs.YtaeeaniofljmnaaGreatDoor.Sx
set_option linter.unusedSimpArgs false
set_option linter.unusedVariables false
open Go Go.RowKit
mutual
theorem b5r {f:Nat→Nat} {ρ:Env}:∀(x:SV) (v:Value),Den ρ (u9 f x) v→Den ⟨fun i=>ρ (f i),ρ.S,ρ.T,ρ.X⟩ x v
 | .tt,v,h=>by simp only[u9] at h; rw[h.tt_inv]; exact .tt
 | .ff,v,h=>by simp only[u9] at h; rw[h.ff_inv]; exact .ff
 | .nilsl,v,h=>by simp only[u9] at h; cases h; exact .nilsl
 | .nilptr,v,h=>by simp only[u9] at h; cases h; exact .nilptr
 | .nilmap,v,h=>by simp only[u9] at h; cases h; exact .nilmap
 | .dead,v,_=>.dead v
 | .b x,v,h=>by simp only[u9] at h; rw[h.b_inv]; exact .b _
 | .i k n,v,h=>by simp only[u9] at h; rw[h.i_inv]; exact .i _ _
 | .ptr r o,v,h=>by simp only[u9] at h; cases h with | ptr h=>exact .ptr h
 | .pix r sz ix o,v,h=>by simp only[u9] at h; cases h with | pix h=>exact .pix h
 | .sl r n,v,h=>by simp only[u9] at h; cases h with | sl h h'=>exact .sl h h'
 | .sub r sz lo n,v,h=>by simp only[u9] at h; cases h with | sub h h'=>exact .sub h h'
 | .mp r,v,h=>by simp only[u9] at h; cases h with | mp h=>exact .mp h
 | .yld r,v,h=>by simp only[u9] at h; cases h with | yld h=>exact .yld h
 | .agg xs,v,h=>by
  simp only[u9] at h
  obtain⟨vs,rfl,hv⟩:=h.agg_inv
  have:=a78 xs vs hv
  exact .agg this.1 this.2
 | .tup xs,v,h=>by
  simp only[u9] at h
  obtain⟨vs,rfl,hv⟩:=h.tup_inv
  have:=a78 xs vs hv
  exact .tup this.1 this.2
 | .fn g xs,v,h=>by
  simp only[u9] at h
  cases h with
  | fn h1 h2 =>
   have:=a78 xs _ ⟨h1,h2⟩
   exact .fn this.1 this.2
 | .v x,v,h=>by simp only[u9] at h; cases h; exact .v _
theorem a78 {f:Nat→Nat} {ρ:Env}:∀(xs:List SV) (vs:List Value),DenL ρ (a2k f xs) vs→DenL ⟨fun i=>ρ (f i),ρ.S,ρ.T,ρ.X⟩ xs vs
 | [],vs,h=>by simp only[a2k] at h; rw[h.inv_nil]; exact DenL.nil _
 | x :: xs,vs,h=>by
  simp only[a2k] at h
  obtain⟨w,ws,rfl,h1,h2⟩:=h.inv
  exact DenL.cons (b5r x w h1) (a78 xs ws h2)
end
def w7 (k:MBlk) (k0:MBlk):Prop:=
 match k0 with
 | .arr n cols=>∃ cols',a5o k=some (n,cols')∧a1a n cols cols'
 | .old cs=>(k=.cells cs∨k=.old cs)∧ltL cs 0=true
 | .fmapp f=>∃ f',a9h k=some f'∧∀ x y,f' x y=f x y
 | .gone=>True
 | _=>False
def kOk:MBlk→Prop
 | .arr _ cols=>cols≠[]
 | .old _=>True
 | .fmapp _=>True
 | .gone=>True
 | _=>False
section
variable {P:Program} {T:Tab}
theorem c65 {ρ σ:Env} {W:World} {r:Nat} {k k0:MBlk} {i:Nat} (h:BR ρ W r k) (hS:∀ g,ρ.S g→g < W.heap.size) (hf:∀ y,ρ r=some y→σ i=some y) (hk:w7 k k0) (hc:kOk k0) (hσ:σ.S=fun g=>g < W.heap.size) (hσR:σ.T=ρ.R):BR σ W i k0:=by
 have hR:∀ g,ρ.R g→σ.R g:=fun g hg=>⟨by rw[hσ]; exact hS g hg.1,by rw[hσR]; exact hg⟩
 cases k0 with
 | gone=>trivial
 | cells cs=>exact hk.elim
 | oarr e n c=>exact hk.elim
 | mapi _ _ _=>exact hk.elim
 | mapp _=>exact hk.elim
 | iterp _ _=>exact hk.elim
 | orows _ _ _ _ _ _ _=>exact hk.elim
 | stk _ _=>exact hk.elim
 | lup _ _ _=>exact hk.elim
 | fmapp f =>
  obtain⟨f',hk,hfe⟩:=hk
  have:f'=f:=funext fun x=>funext fun y=>hfe x y
  subst this
  cases k <;> simp only[a9h] at hk <;> first | cases hk | skip
  ·obtain⟨g,es,clock,c,h1,h2,h3,h4⟩:=h
   exact⟨g,es,clock,c,hf _ h1,by rw[hσ]; exact(z0j.1 h3).1,h3,h4⟩
  ·obtain⟨g,es,clock,c,h1,h2,h3,h4⟩:=h
   exact⟨g,es,clock,c,hf _ h1,by rw[hσ]; exact(z0j.1 h3).1,h3,h4⟩
 | arr n cols0 =>
  simp only[w7] at hk
  obtain⟨cols,hk,hce⟩:=hk
  obtain⟨ce1,ce2⟩:=a1r hce
  have hρ:∃ A c,ρ r=some (A,c)∧n≤c:=by
   cases k <;> simp only[a5o] at hk <;> first | cases hk | skip
   ·obtain⟨A,c,h1,hn0,_⟩:=h; exact⟨A,c,h1,hn0⟩
   ·obtain⟨A,c,vs,h1,h2,_⟩:=h
    refine⟨A,c,h1,?_⟩
    rcases h2.2 with⟨_,h0⟩ | ⟨g,cap,cur,h,_,_,hnc,_⟩
    ·omega
    ·simp only[z0y] at h; omega
  obtain⟨A,c,h1,hn0⟩:=hρ
  refine⟨A,c,hf _ h1,hn0,fun hn=>?_⟩
  obtain⟨a,ha,h3⟩:=b9l h hk h1 hn
  refine⟨a,ha,?_,fun j hj kk col hcol=>?_⟩
  ·rw[hσ]
   cases k <;> simp only[a5o] at hk <;> first | cases hk | skip
   ·obtain⟨A',c',h1',_,h2⟩:=h
    rw[h1] at h1'
    simp only[z0a,z0g] at h1'
    obtain⟨rfl,rfl⟩:=h1'
    obtain⟨a',ha',hs,_⟩:=h2 hn
    rw[ha] at ha'
    simp only[z0a] at ha'
    subst ha'
    exact hS _ hs
   ·exact(t9 h rfl (by rw[h1,ha])).2
  ·have hkk:=(z0c.1 hcol).1
   obtain⟨v,hv,hd⟩:=h3 j hj kk _ (z0i (by omega))
   rw[ce1] at hv
   exact⟨v,hv,a2p (ce2 kk col _ hcol (z0i (by omega))) hj (s7 hd hR (fun _ _=>rfl))⟩
 | old cs =>
  simp only[w7] at hk
  obtain⟨hk,hc⟩:=hk
  rcases hk with rfl | rfl
  ·obtain⟨g,t,vs,c,h1,h2,h3,h4⟩:=h
   refine⟨⟨g,0,none⟩,c,hf _ h1,by rw[hσ]; exact(z0j.1 h3).1,fun j x hx=>?_⟩
   obtain⟨v,hv,hd⟩:=h4.get hx
   refine⟨v,?_,a05 (a23 hc hx) (fun r y hr=>by omega) hd⟩
   simp[World.cell?,Addr.add_lit,h3,hv]
  ·obtain⟨a,c,h1,h2,h3⟩:=h
   refine⟨a,c,hf _ h1,by rw[hσ]; exact hS _ h2,fun j x hx=>?_⟩
   obtain⟨v,hv,hd⟩:=h3 j x hx
   exact⟨v,hv,a05 (a23 hc hx) (fun r y hr=>by omega) hd⟩
def a0f:List MBlk→Bool
 | []=>true
 | .arr _ cols :: r=>!cols.isEmpty && a0f r
 | .old _ :: r=>a0f r
 | .fmapp _ :: r=>a0f r
 | .gone :: r=>a0f r
 | _=>false
theorem b0a {m:List MBlk} (h:a0f m=true) {i:Nat} {k0:MBlk} (hk:m[i]?=some k0):kOk k0∧l7 k0=false:=by
 induction m generalizing i with
 | nil=>simp at hk
 | cons x r ih =>
  cases i with
  | zero =>
   simp at hk
   subst hk
   cases x <;> simp_all [a0f,l7,kOk]
  | succ i=>exact ih (by cases x <;> simp_all [a0f]) (by simpa using hk)
def a1y (ρ:Env) (W:World):Lim:=⟨fun g=>g < W.heap.size,ρ.R⟩
def t5 (f:Nat→Option Nat) (ρ:Env):Env:=⟨fun i=>match f i with
 | some r=>ρ r
 | none=>some (none,0),ρ.S,ρ.T,ρ.X⟩
def knownAs (f:Nat→Option Nat) (m:List MBlk) (N i:Nat) (k0:MBlk):Prop:=
 (∃ r k,f i=some r∧m[r]?=some k∧w7 k k0)∨(f i=none∧∃ cols,k0=.arr 0 cols)∨∃ r cs cs',f i=some r∧m[r]?=some (.cells cs)∧k0=.old cs'∧ltL cs' N=true∧∀ ρ vs,DenL ρ cs vs→DenL (t5 f ρ) cs' vs
theorem callee {fid:FuncId} {fn:Func} {ρ:Env} {W:World} {m m0:List MBlk} {vs0:List SV} {xs:List Value} {f:Nat→Option Nat} {R:SV→List MBlk→Prop} (hT:TabOk P T) (hfn:P.funcs[fid]?=some fn) (hS:∀ g,ρ.S g→g < W.heap.size)
  (hblk:∀ r k,m[r]?=some k→ρ r≠none→BR ρ W r k) (hd:DenL (t5 f ρ) vs0 xs) (hlt:ltL vs0 m0.length=true) (hok:a0f m0=true) (hkn:∀ i k0,m0[i]?=some k0→knownAs f m m0.length i k0)
  (hG:∀ g i,g7 T.globals g=some i→i < m0.length∧∃ c,(t5 f ρ) i=some (some ⟨g,0,none⟩,c)) (hpin:T.pins=[]) (hv:n9 T fn vs0 m0 R) :
  Calls P fid xs.toArray W (fun e W'=>∃ v ρ' m' sv,e=.returned v∧Den ρ' sv v∧MR (a1y ρ W) W W' ρ' m'∧R sv m'):=by
 let σ:Env:=⟨fun i=>if i < m0.length then(t5 f ρ) i else none,fun g=>g < W.heap.size,ρ.R,fun _ _=>False⟩
 have hσ:∀ i y,i < m0.length→(t5 f ρ) i=some y→σ i=some y:=fun i y hi hy=>by simp only[σ,if_pos hi]; exact hy
 have hσ2:∀ i,σ i≠none→i < m0.length∧(t5 f ρ) i≠none:=fun i hi=>by
  simp only[σ] at hi
  split at hi
  ·rename_i h; exact⟨h,hi⟩
  ·exact absurd rfl hi
 refine Calls.mono (a94 (B:=a1y ρ W) (w0:=W) (ρ:=σ) hT hfn hv ⟨fun g hg=>hg,fun g hg=>.inl hg.2,fun g hg=>hg,.refl _ _,fun i k0 hk hne=>?_,fun i hi=>(hσ2 i hi).1,fun _ _ h=>h.elim,fun _ _ _ h=>h.elim,fun _ _ _ _ _ _ h=>h.elim,fun r s k l a b c d hk _ ho=>?_⟩ ⟨fun g i hg=>?_,fun p hp=>?_⟩ ⟨hd.1,fun j x v hx hv=>a05 (a23 hlt hx) (fun r y hr hy=>hσ r y hr hy) (hd.2 j x v hx hv)⟩) fun e W' ⟨v,ρ',m',sv,h1,h2,h3,h4,_⟩=>⟨v,ρ',m',sv,h1,h2,h3,h4⟩
 ·obtain⟨hi,hne'⟩:=hσ2 i hne
  rcases hkn i k0 hk with⟨r,k,hf,hk',hkn'⟩ | ⟨hf,cols,rfl⟩ | ⟨r,cs,cs',hf,hk',rfl,hl,hcv⟩
  ·have he:(t5 f ρ) i=ρ r:=by simp only[t5,hf]
   exact c65 (hblk r k hk' (by rw[← he]; exact hne')) hS (fun y hy=>hσ i y hi (by rw[he]; exact hy)) hkn' (b0a hok hk).1 rfl rfl
  ·exact⟨none,0,hσ i _ hi (by simp only[t5,hf]),z0q _,fun h=>absurd h (z1k _)⟩
  ·have he:(t5 f ρ) i=ρ r:=by simp only[t5,hf]
   obtain⟨g,t,vs,c,h1,h2,h3,h4⟩:=hblk r _ hk' (by rw[← he]; exact hne')
   refine⟨⟨g,0,none⟩,c,hσ i _ hi (by rw[he]; exact h1),(z0j.1 h3).1,fun j x hx=>?_⟩
   obtain⟨v,hv,hd'⟩:=(hcv ρ vs h4).get hx
   refine⟨v,?_,a05 (a23 hl hx) (fun r y hr hy=>hσ r y hr hy) hd'⟩
   simp[World.cell?,Addr.add_lit,h3,hv]
 ·rw[(b0a hok hk).2] at ho
  cases ho
 ·obtain⟨hi,c,hc⟩:=hG g i hg
  exact⟨c,hσ i _ hi hc⟩
 ·rw[hpin] at hp; cases hp
def l8 (x:SV):SV→List MBlk→Prop:=fun sv _=>veq x sv
theorem Keeps.callee {ρ ρ':Env} {W W':World} {m':List MBlk} (hm:MR (a1y ρ W) W W' ρ' m'):Below W.heap.size W W':=hm.below.below
theorem c18 {ρ:Env} {W:World} {base:Nat} {x:SV} (hx:x.ltB 0=true) {fid:FuncId} {xs:Array Value} (h:Calls P fid xs W (fun e W'=>∃ v ρ' m' sv,e=.returned v∧Den ρ' sv v∧MR (a1y ρ W) W W' ρ' m'∧l8 x sv m')) :
  Calls P fid xs W (fun e W'=>∃ v,e=.returned v∧StepPost ρ W base x [] v W'):=
 Calls.mono h fun e W' ⟨v,ρ',m',sv,he,hd,hm,hx'⟩=>⟨v,he,Keeps.callee hm,ρ,fun _ _=>rfl,.refl _ _ _,a05 hx (fun r y hr=>by omega) (a3l _ _ _ hx' hd),.nil _ _ _ _⟩
mutual
def a4j (q:Option Nat):SV→SV→Prop
 | .sl _ n,y=>match y with
  | .sl r n'=>(match q with
   | some q=>bif Nat.beq q r then n'=n else False
   | none=>False)
  | .nilsl=>(match q with
   | some _=>False
   | none=>n=0)
  | _=>False
 | .agg xs,y=>match y with
  | .agg ys=>b4c q xs ys
  | _=>False
 | .tup xs,y=>match y with
  | .tup ys=>b4c q xs ys
  | _=>False
 | x,y=>veq x y
def b4c (q:Option Nat):List SV→List SV→Prop
 | [],[]=>True
 | x :: xs,y :: ys=>a4j q x y∧b4c q xs ys
 | _,_=>False
end
mutual
def SV.slOf:SV→Option Nat
 | .sl r _=>some r
 | .agg xs=>b5v xs
 | .tup xs=>b5v xs
 | _=>none
def b5v:List SV→Option Nat
 | []=>none
 | x :: r=>match SV.slOf x with
  | some q=>some q
  | none=>b5v r
end
mutual
def a2w (b:Nat):SV→SV
 | .sl _ n=>.sl b n
 | .agg xs=>.agg (b7n b xs)
 | .tup xs=>.tup (b7n b xs)
 | x=>x
def b7n (b:Nat):List SV→List SV
 | []=>[]
 | x :: r=>a2w b x :: b7n b r
end
mutual
def tOk:SV→Bool
 | .sl _ _=>true
 | .agg xs=>c8j xs
 | .tup xs=>c8j xs
 | x=>x.ltB 0
def c8j:List SV→Bool
 | []=>true
 | x :: r=>tOk x && c8j r
end
def a6f (t:SV) (e N:Nat) (cols:List Col):SV→List MBlk→Prop:=fun sv m=>match SV.slOf sv with
 | some r=>(match nth m r with
  | some (.oarr e' n' cols')=>bif Nat.beq e e' then n'=N∧a1a N cols cols'∧a4j (some r) t sv else False
  | some (.orows e' _ n' none _ len gs)=>bif Nat.beq e e' then n'=N∧a1a N cols [.rows len gs]∧a4j (some r) t sv else False
  | _=>False)
 | none=>N=0∧a4j none t sv
mutual
theorem b41 {ρ:Env} {r:Nat}:∀(x:SV) (v:Value),SV.slOf x=some r→Den ρ x v→∃ y,ρ r=some y
 | .sl q n,v,h,hd=>by
  simp only[SV.slOf,z0a] at h
  subst h
  obtain⟨A,c,h1,_⟩:=hd.sl_inv
  exact⟨_,h1⟩
 | .agg xs,v,h,hd=>by
  simp only[SV.slOf] at h
  obtain⟨vs,rfl,hv⟩:=hd.agg_inv
  exact b0o xs vs h hv
 | .tup xs,v,h,hd=>by
  simp only[SV.slOf] at h
  obtain⟨vs,rfl,hv⟩:=hd.tup_inv
  exact b0o xs vs h hv
 | .tt,_,h,_=>by simp[SV.slOf] at h
 | .ff,_,h,_=>by simp[SV.slOf] at h
 | .nilsl,_,h,_=>by simp[SV.slOf] at h
 | .nilptr,_,h,_=>by simp[SV.slOf] at h
 | .nilmap,_,h,_=>by simp[SV.slOf] at h
 | .dead,_,h,_=>by simp[SV.slOf] at h
 | .b _,_,h,_=>by simp[SV.slOf] at h
 | .i _ _,_,h,_=>by simp[SV.slOf] at h
 | .ptr _ _,_,h,_=>by simp[SV.slOf] at h
 | .pix _ _ _ _,_,h,_=>by simp[SV.slOf] at h
 | .sub _ _ _ _,_,h,_=>by simp[SV.slOf] at h
 | .mp _,_,h,_=>by simp[SV.slOf] at h
 | .yld _,_,h,_=>by simp[SV.slOf] at h
 | .fn _ _,_,h,_=>by simp[SV.slOf] at h
 | .v _,_,h,_=>by simp[SV.slOf] at h
theorem b0o {ρ:Env} {r:Nat}:∀(xs:List SV) (vs:List Value),b5v xs=some r→DenL ρ xs vs→∃ y,ρ r=some y
 | [],vs,h,_=>by simp[b5v] at h
 | x :: xs,vs,h,hd=>by
  obtain⟨v,ws,rfl,h1,h2⟩:=hd.inv
  simp only[b5v] at h
  split at h
  ·rename_i q hq
   simp only[z0a] at h
   subst h
   exact b41 x v hq h1
  ·exact b0o xs ws h h2
end
section
variable {ρ' σ:Env} {base:Nat}
theorem a0q {x y:SV} {v:Value} (hx:x.ltB 0=true) (h:veq x y) (hd:Den ρ' y v):Den σ x v:=a05 hx (fun r y hr=>by omega) (a3l _ _ _ h hd)
mutual
theorem b9s {q:Option Nat} {z:Option Addr × Nat} (hb:σ base=some z) (hq:(∃ r,q=some r∧ρ' r=some z)∨(q=none∧z=(none,0))):∀(t y:SV) (v:Value),tOk t=true→a4j q t y→Den ρ' y v→Den σ (a2w base t) v
 | .sl _ n,y,v,_,h,hd=>by
  simp only[a4j] at h
  split at h
  ·rename_i r n'
   split at h
   ·rename_i q0
    rcases hq with⟨r',e,hr⟩ | ⟨e,_⟩
    ·simp only[z0a] at e
     subst e
     cases hbq:Nat.beq q0 r
     ·simp[hbq] at h
     ·simp only[hbq,z0f] at h
      obtain rfl:=z0b hbq
      subst h
      obtain⟨A,c,h1,rfl,h2⟩:=hd.sl_inv
      rw[hr] at h1
      simp only[z0a] at h1
      subst h1
      exact .sl hb h2
    ·cases e
   ·exact h.elim
  ·split at h
   ·exact h.elim
   ·rcases hq with⟨r',e,hr⟩ | ⟨_,e⟩
    ·cases e
    ·subst e h
     cases hd
     exact .sl hb (fun h=>absurd h (z1k _))
  ·exact h.elim
 | .agg xs,y,v,ht,h,hd=>by
  simp only[a4j] at h
  split at h
  ·obtain⟨vs,rfl,hv⟩:=hd.agg_inv
   have:=b0r hb hq xs _ vs (by simpa [tOk] using ht) h hv
   exact .agg this.1 this.2
  ·exact h.elim
 | .tup xs,y,v,ht,h,hd=>by
  simp only[a4j] at h
  split at h
  ·obtain⟨vs,rfl,hv⟩:=hd.tup_inv
   have:=b0r hb hq xs _ vs (by simpa [tOk] using ht) h hv
   exact .tup this.1 this.2
  ·exact h.elim
 | .tt,y,v,ht,h,hd=>by simp only[a2w]; exact a0q (by simpa [tOk] using ht) (by simpa only[a4j] using h) hd
 | .ff,y,v,ht,h,hd=>by simp only[a2w]; exact a0q (by simpa [tOk] using ht) (by simpa only[a4j] using h) hd
 | .nilsl,y,v,ht,h,hd=>by simp only[a2w]; exact a0q (by simpa [tOk] using ht) (by simpa only[a4j] using h) hd
 | .nilptr,y,v,ht,h,hd=>by simp only[a2w]; exact a0q (by simpa [tOk] using ht) (by simpa only[a4j] using h) hd
 | .nilmap,y,v,ht,h,hd=>by simp only[a2w]; exact a0q (by simpa [tOk] using ht) (by simpa only[a4j] using h) hd
 | .dead,y,v,ht,h,hd=>by simp only[a2w]; exact .dead _
 | .b _,y,v,ht,h,hd=>by simp only[a2w]; exact a0q (by simpa [tOk] using ht) (by simpa only[a4j] using h) hd
 | .i _ _,y,v,ht,h,hd=>by simp only[a2w]; exact a0q (by simpa [tOk] using ht) (by simpa only[a4j] using h) hd
 | .ptr _ _,y,v,ht,h,hd=>by simp only[a2w]; exact a0q (by simpa [tOk] using ht) (by simpa only[a4j] using h) hd
 | .pix _ _ _ _,y,v,ht,h,hd=>by simp only[a2w]; exact a0q (by simpa [tOk] using ht) (by simpa only[a4j] using h) hd
 | .sub _ _ _ _,y,v,ht,h,hd=>by simp only[a2w]; exact a0q (by simpa [tOk] using ht) (by simpa only[a4j] using h) hd
 | .mp _,y,v,ht,h,hd=>by simp only[a2w]; exact a0q (by simpa [tOk] using ht) (by simpa only[a4j] using h) hd
 | .yld _,y,v,ht,h,hd=>by simp only[a2w]; exact a0q (by simpa [tOk] using ht) (by simpa only[a4j] using h) hd
 | .fn _ _,y,v,ht,h,hd=>by simp only[a2w]; exact a0q (by simpa [tOk] using ht) (by simpa only[a4j] using h) hd
 | .v _,y,v,ht,h,hd=>by simp only[a2w]; exact a0q (by simpa [tOk] using ht) (by simpa only[a4j] using h) hd
theorem b0r {q:Option Nat} {z:Option Addr × Nat} (hb:σ base=some z) (hq:(∃ r,q=some r∧ρ' r=some z)∨(q=none∧z=(none,0))):∀(ts ys:List SV) (vs:List Value),c8j ts=true→b4c q ts ys→DenL ρ' ys vs→DenL σ (b7n base ts) vs
 | [],[],vs,_,_,hd=>by rw[hd.inv_nil]; exact DenL.nil _
 | t :: ts,y :: ys,vs,ht,h,hd=>by
  obtain⟨v,ws,rfl,h1,h2⟩:=hd.inv
  simp only[b4c] at h
  simp only[c8j,z0d] at ht
  exact DenL.cons (b9s hb hq t y v ht.1 h.1 h1) (b0r hb hq ts ys ws ht.2 h.2 h2)
 | [],_ :: _,_,_,h,_=>by simp only[b4c] at h
 | _ :: _,[],_,_,h,_=>by simp only[b4c] at h
end
end
theorem c76 {ρ:Env} {W:World} {base e N:Nat} {cols:List Col} {t:SV} (ht:tOk t=true) (hc:0 < cols.length) (hS:∀ g,ρ.S g→g < W.heap.size) {fid:FuncId} {xs:Array Value} (h:Calls P fid xs W (fun ex W'=>∃ v ρ' m' sv,ex=.returned v∧Den ρ' sv v∧MR (a1y ρ W) W W' ρ' m'∧a6f t e N cols sv m')) :
  Calls P fid xs W (fun ex W'=>∃ v,ex=.returned v∧StepPost ρ W base (a2w base t) [.oarr e N cols] v W'):=by
 refine Calls.mono h fun ex W' ⟨v,ρ',m',sv,he,hd,hm,hx'⟩=>⟨v,he,Keeps.callee hm,?_⟩
 have key:∃ z vs,∃ R':Nat→Prop,(∀ g,ρ'.R g→R' g)∧(∀ g,R' g→ρ'.R g∨(W.heap.size≤g∧g < W'.heap.size))∧((∃ r,SV.slOf sv=some r∧ρ' r=some z)∨(SV.slOf sv=none∧z=(none,0)))∧a4j (SV.slOf sv) t sv∧W'.ownsRow 0 e cols.length (.slice z.1 N z.2) N vs∧(∀ a,z.1=some a→¬ ρ'.S a.block∧¬ R' a.block)∧∀ j,j < N→∀ k col,cols[k]?=some col→∃ u,vs[j * cols.length + k]?=some u∧j4 R' W' col j u:=by
  unfold a6f at hx'
  split at hx'
  ·rename_i r hr
   split at hx'
   ·rename_i e' n' cols' hk
    cases hee:Nat.beq e e'
    ·simp[hee] at hx'
    ·simp only[hee,z0f] at hx'
     obtain⟨rfl,hcc,htv⟩:=hx'
     obtain rfl:=z0b hee
     obtain⟨y,hy⟩:=b41 sv v hr hd
     obtain⟨A,c,vs,h1,h2,h3,h4,h5⟩:=hm.blk r _ (by rw[← t0]; exact hk) (by rw[hy]; simp)
     obtain⟨e1,e2⟩:=a1r hcc
     rw[e1] at h2 h5
     refine⟨(A,c),vs,ρ'.R,fun _ h=>h,fun _ h=>.inl h,.inl ⟨r,hr,h1⟩,by rw[hr]; exact htv,h2,fun a ha=>⟨h3 a ha,fun h=>h3 a ha h.1⟩,fun j hj k col hkc=>?_⟩
     have hk':=(z0c.1 hkc).1
     obtain⟨u,hu,hdu⟩:=h5 j hj k _ (z0i (by omega))
     exact⟨u,hu,a2p (e2 k col _ hkc (z0i (by omega))) hj hdu⟩
   ·rename_i e' q' n' lk len gs hk
    cases hee:Nat.beq e e'
    ·simp[hee] at hx'
    ·simp only[hee,z0f] at hx'
     obtain⟨rfl,hcc,htv⟩:=hx'
     obtain rfl:=z0b hee
     obtain⟨y,hy⟩:=b41 sv v hr hd
     have hkr:=p9 hk
     obtain⟨A,c,vs,h1,h2,h3,h4,h5,h6,_⟩:=hm.blk r _ hkr (by rw[hy]; simp)
     obtain⟨e1,e2⟩:=a1r hcc
     have e1:cols.length=1:=by simpa using e1.symm
     refine⟨(A,c),vs,fun g=>ρ'.R g∨ρ'.X r g,fun _ h=>.inl h,fun g h=>?_,.inl ⟨r,hr,h1⟩,by rw[hr]; exact htv,by rw[e1]; exact h2,fun a ha=>⟨h3 a ha,fun h=>?_⟩,fun j hj k col hkc=>?_⟩
     ·rcases h with h | h
      ·exact .inl h
      ·obtain⟨_,x2,x3⟩:=hm.xlt r g h
       exact .inr ⟨z1z fun hlt=>x2 (hm.sub g hlt),x3⟩
     ·rcases h with h | h
      ·exact h3 a ha h.1
      ·exact hm.xown r _ r _ a c h hkr rfl (by rw[h1,show A=some a from ha]) rfl
     ·have hk':=(z0c.1 hkc).1
      have hk0:k=0:=by omega
      subst hk0
      obtain⟨B,d,us,f1,f2,f3,f4⟩:=h5 j hj (by simp)
      refine⟨_,by rw[e1]; simpa using f1,a2p (e2 0 col _ hkc rfl) hj ⟨B,d,rfl,?_,fun h0=>?_⟩⟩
      ·rcases f2.2 with⟨_,h0⟩ | ⟨g,cap,cur,h,_,_,hnc,_⟩
       ·omega
       ·simp only[z0y] at h; omega
      ·rcases f2.2 with⟨_,h0'⟩ | ⟨g,cap,cur,h,_⟩
       ·omega
       ·simp only[z0y] at h
        refine⟨⟨g,0,none⟩,h.1,.inr (f3 _ h.1),fun i hi k g' hg'=>?_⟩
        exact f2.cells (by rw[h.1]; rfl) _ _ (f4 i hi k g' hg')
   ·exact hx'.elim
  ·rename_i hr
   obtain⟨rfl,htv⟩:=hx'
   exact⟨(none,0),[],ρ'.R,fun _ h=>h,fun _ h=>.inl h,.inr ⟨hr,rfl⟩,by rw[hr]; exact htv,⟨by simp,.inl ⟨rfl,rfl⟩⟩,fun a ha=>(by cases ha),fun j hj=>absurd hj (z1l _)⟩
 obtain⟨z,vs,R',hRR,hR2,hz,htv,hown,hnoS,hcol⟩:=key
 let σ:Env:=⟨fun s=>if s=base then some z else ρ s,fun g=>ρ.S g∨(R' g∧W.heap.size≤g),fun g=>ρ.T g∨(R' g∧W.heap.size≤g),ρ.X⟩
 have hσb:σ base=some z:=by simp[σ]
 have hge:∀ a,z.1=some a→W.heap.size≤a.block:=fun a ha=>z1z fun hlt=>(hnoS a ha).1 (hm.sub _ hlt)
 have hRle:∀ g,R' g→σ.R g:=fun g hg=>by
  by_cases hlt:W.heap.size≤g
  ·exact⟨.inr ⟨hg,hlt⟩,.inr ⟨hg,hlt⟩⟩
  ·rcases hR2 g hg with h | h
   ·rcases hm.rows g h with h | h
    ·exact⟨.inl h.1,.inl h.2⟩
    ·exact absurd (z1z h) hlt
   ·exact absurd h.1 hlt
 refine⟨σ,fun r hr=>?_,⟨fun g h=>.inl h,fun g h=>?_,fun g h=>.inl h,fun g h=>?_,rfl⟩,b9s hσb hz t sv v ht htv hd,⟨fun j b hj _=>?_,fun j b a c hj ho hx=>?_,fun j l b d a c x y hj hl _ _ _ _ _=>?_⟩⟩
 ·have hne:r≠base:=by intro e; simp at hr; omega
  simp only[σ,if_neg hne]
 ·rcases h with h | h
  ·exact .inl h
  ·refine .inr ⟨h.2,?_⟩
   rcases hR2 g h.1 with h' | h'
   ·exact hm.hS g h'.1
   ·exact h'.2
 ·rcases h with⟨h1 | h1,h2 | h2⟩
  ·exact .inl ⟨h1,h2⟩
  ·exact .inr h2.2
  ·exact .inr h1.2
  ·exact .inr h1.2
 ·have:j=0:=by have:=(z0c.1 hj).1; simpa using this
  subst this
  simp at hj
  subst hj
  refine⟨z.1,z.2,vs,hσb,hown,fun a ha hs=>?_,hc,fun j hj k col hk=>?_⟩
  ·rcases hs with hs | hs
   ·have h1:=hS _ hs; have h2:=hge a ha; omega
   ·exact(hnoS a ha).2 hs.1
  ·obtain⟨u,hu,hdu⟩:=hcol j hj k col hk
   exact⟨u,hu,s7 hdu hRle (fun _ _=>rfl)⟩
 ·have:j=0:=by have:=(z0c.1 hj).1; simpa using this
  subst this
  simp only[z1i,hσb,z0a] at hx
  exact hge a (by rw[hx])
 ·have h1:=(z0c.1 hj).1
  have h2:=(z0c.1 hl).1
  simp at h1 h2
  omega
def a79 (f:Int→Int→Bool):SV→List MBlk→Prop:=fun sv m=>match sv with
 | .mp r=>(match nth m r with
  | some (.mapp f')=>∀ x y,f' x y=f x y
  | _=>False)
 | _=>False
theorem c75 {ρ:Env} {W:World} {base:Nat} {f:Int→Int→Bool} (hS:∀ g,ρ.S g→g < W.heap.size) {fid:FuncId} {xs:Array Value} (h:Calls P fid xs W (fun ex W'=>∃ v ρ' m' sv,ex=.returned v∧Den ρ' sv v∧MR (a1y ρ W) W W' ρ' m'∧a79 f sv m')) :
  Calls P fid xs W (fun ex W'=>∃ v,ex=.returned v∧StepPost ρ W base (.mp base) [.mapp f] v W'):=by
 refine Calls.mono h fun ex W' ⟨v,ρ',m',sv,he,hd,hm,hx'⟩=>⟨v,he,Keeps.callee hm,?_⟩
 unfold a79 at hx'
 split at hx'
 ·rename_i r
  split at hx'
  ·rename_i f' hk
   have hff:f'=f:=funext fun x=>funext fun y=>hx' x y
   subst hff
   have hkr:=p9 hk
   obtain⟨g,c,hρ,rfl⟩:=hd.mp_inv
   have hb:=hm.blk r _ hkr (by rw[hρ]; simp)
   have hge:W.heap.size≤g:=z1z fun hlt=>(t9 hb rfl hρ).1 (hm.sub _ hlt)
   obtain⟨g',es,clock,c',h1,h2,h3,h4⟩:=hb
   rw[hρ] at h1
   simp only[z0a,z0g,z2a,and_true] at h1
   obtain⟨rfl,rfl⟩:=h1
   refine⟨ρ.with base (some ⟨g,0,none⟩,c),fun r hr=>Env.with_ne _ _ (by intro e; simp at hr; omega),.with _ _ _ _ _,.mp (Env.with_same _ _ _),⟨fun j b hj _=>?_,fun j b a c hj ho hx=>?_,fun j l b d a c x y hj hl _ _ _ _ _=>?_⟩⟩
   ·have:j=0:=by have:=(z0c.1 hj).1; simpa using this
    subst this
    simp at hj
    subst hj
    exact⟨g,es,clock,c,Env.with_same _ _ _,fun hs=>by have:=hS _ hs; omega,h3,h4⟩
   ·have:j=0:=by have:=(z0c.1 hj).1; simpa using this
    subst this
    simp only[z1i,Env.with_same,z0a,z0g] at hx
    rw[← hx.1]
    exact hge
   ·have h1:=(z0c.1 hj).1
    have h2:=(z0c.1 hl).1
    simp at h1 h2
    omega
  ·exact hx'.elim
 ·exact hx'.elim
def b2a (R:SV→List MBlk→Prop) (t:Nat→SV) (new:List MBlk):Prop:=
 ∀(ρ:Env) (W W':World) (base:Nat) (v:Value) (ρ':Env) (m':List MBlk) (sv:SV),(∀ g,ρ.S g→g < W.heap.size)→Den ρ' sv v→MR (a1y ρ W) W W' ρ' m'→R sv m'→StepPost ρ W base (t base) new v W'
def a9k (k:IntKind) (k':Option IntKind) (f:Int→Option Int) (x:SV):SV→List MBlk→Prop:=fun sv m=>match sv with
 | .tup [.mp r,y]=>veq x y∧(match nth m r with
  | some (.mapi k2 k2' f')=>bif kEq k2 k && oEq k2' k' then(∀ j,f' j=f j) else False
  | _=>False)
 | _=>False
theorem b5o {k:IntKind} {k':Option IntKind} {f:Int→Option Int} {x:SV} (hx0:x.ltB 0=true):b2a (a9k k k' f x) (fun base=>.tup [.mp base,x]) [.mapi k k' f]:=fun ρ W W' base v ρ' m' sv hS hd hm hx'=>by
 refine⟨Keeps.callee hm,?_⟩
 unfold a9k at hx'
 split at hx'
 ·rename_i r y
  obtain⟨hxy,hx'⟩:=hx'
  split at hx'
  ·rename_i k2 k2' f' hk
   cases hkk:(kEq k2 k && oEq k2' k')
   ·rw[hkk] at hx'; exact hx'.elim
   rw[hkk] at hx'
   simp only[z0f] at hx'
   simp only[z0d] at hkk
   obtain rfl:=u4.1 hkk.1
   obtain rfl:=a62.1 hkk.2
   have hff:f'=f:=funext fun x=>hx' x
   subst hff
   have hkr:=p9 hk
   obtain⟨vs,rfl,hvs⟩:=hd.tup_inv
   obtain⟨u,us,rfl,hdm,hvs⟩:=hvs.inv
   obtain⟨u2,us2,rfl,hdy,hvs⟩:=hvs.inv
   obtain rfl:=hvs.inv_nil
   have hdx:∀ σ,Den σ x u2:=fun σ=>a05 hx0 (fun r y hr=>by omega) (a3l _ _ _ hxy hdy)
   obtain⟨g,c,hρ,rfl⟩:=hdm.mp_inv
   have hb:=hm.blk r _ hkr (by rw[hρ]; simp)
   have hge:W.heap.size≤g:=z1z fun hlt=>(t9 hb rfl hρ).1 (hm.sub _ hlt)
   obtain⟨g',es,clock,c',h1,h2,h3,h4⟩:=hb
   rw[hρ] at h1
   simp only[z0a,z0g,z2a,and_true] at h1
   obtain⟨rfl,rfl⟩:=h1
   have hl:DenL (ρ.with base (some ⟨g,0,none⟩,c)) [.mp base,x] [.map (some g),u2]:=DenL.cons (.mp (Env.with_same _ _ _)) (DenL.cons (hdx _) (DenL.nil _))
   refine⟨ρ.with base (some ⟨g,0,none⟩,c),fun r hr=>Env.with_ne _ _ (by intro e; simp at hr; omega),.with _ _ _ _ _,.tup hl.1 hl.2,⟨fun j b hj _=>?_,fun j b a c hj ho hx=>?_,fun j l b d a c x y hj hl _ _ _ _ _=>?_⟩⟩
   ·have:j=0:=by have:=(z0c.1 hj).1; simpa using this
    subst this
    simp at hj
    subst hj
    exact⟨g,es,clock,c,Env.with_same _ _ _,fun hs=>by have:=hS _ hs; omega,h3,h4⟩
   ·have:j=0:=by have:=(z0c.1 hj).1; simpa using this
    subst this
    simp only[z1i,Env.with_same,z0a,z0g] at hx
    rw[← hx.1]
    exact hge
   ·have h1:=(z0c.1 hj).1
    have h2:=(z0c.1 hl).1
    simp at h1 h2
    omega
  ·exact hx'.elim
 ·exact hx'.elim
def c1c (x y z:SV) (e N:Nat) (cols:List Col):SV→List MBlk→Prop:=fun sv m=>match sv with
 | .tup [x',.agg [.sl r2 n2,.sl r n,z'],y']=>veq x x'∧veq y y'∧veq z z'∧n2=N∧n=N∧(match nth m r with
  | some (.oarr e' n' cols')=>bif Nat.beq e e' then n'=N∧a1a N cols cols' else False
  | _=>False)
 | _=>False
theorem b93 {x y z:SV} {e N:Nat} {cols:List Col} (hx0:x.ltB 0=true) (hy0:y.ltB 0=true) (hz0:z.ltB 0=true) (hc:0 < cols.length):b2a (c1c x y z e N cols) (fun base=>.tup [x,.agg [.sl (base + 1) N,.sl base N,z],y]) [.oarr e N cols,.gone]:=fun ρ W W' base v ρ' m' sv hS hd hm hx'=>by
 refine⟨Keeps.callee hm,?_⟩
 unfold c1c at hx'
 split at hx'
 ·rename_i x' r2 n2 r n z' y'
  obtain⟨hxx,hyy,hzz,hn2,rfl,hx'⟩:=hx'
  subst hn2
  split at hx'
  ·rename_i e' n' cols' hk
   cases hee:Nat.beq e e'
   ·simp[hee] at hx'
   ·simp only[hee,z0f] at hx'
    obtain⟨rfl,hcc⟩:=hx'
    obtain rfl:=z0b hee
    obtain⟨vs,rfl,hvs⟩:=hd.tup_inv
    obtain⟨u1,us,rfl,hd1,hvs⟩:=hvs.inv
    obtain⟨u2,us,rfl,hd2,hvs⟩:=hvs.inv
    obtain⟨u3,us,rfl,hd3,hvs⟩:=hvs.inv
    obtain rfl:=hvs.inv_nil
    obtain⟨ws,rfl,hws⟩:=hd2.agg_inv
    obtain⟨w1,us,rfl,he1,hws⟩:=hws.inv
    obtain⟨w2,us,rfl,he2,hws⟩:=hws.inv
    obtain⟨w3,us,rfl,he3,hws⟩:=hws.inv
    obtain rfl:=hws.inv_nil
    have leaf:∀ {x y:SV} {v:Value} (σ:Env),x.ltB 0=true→veq x y→Den ρ' y v→Den σ x v:=fun σ hx h hd=>a05 hx (fun r y hr=>by omega) (a3l _ _ _ h hd)
    obtain⟨A,c,hz,rfl,hA0⟩:=he2.sl_inv
    obtain⟨A2,c2,hz2,rfl,hA2⟩:=he1.sl_inv
    obtain⟨A',c',vs,h1,h2,h3,h4,h5⟩:=hm.blk r _ (p9 hk) (by rw[hz]; simp)
    rw[hz] at h1
    simp only[z0a,z0g] at h1
    obtain⟨rfl,rfl⟩:=h1
    obtain⟨e1,e2⟩:=a1r hcc
    rw[e1] at h2 h5
    have hnoS:∀ a,A=some a→¬ ρ'.S a.block∧¬ ρ'.R a.block:=fun a ha=>⟨h3 a ha,fun h=>h3 a ha h.1⟩
    have hcol:∀ j,j < n'→∀ k col,cols[k]?=some col→∃ u,vs[j * cols.length + k]?=some u∧j4 ρ'.R W' col j u:=fun j hj k col hkc=>by
     have hk':=(z0c.1 hkc).1
     obtain⟨u,hu,hdu⟩:=h5 j hj k _ (z0i (by omega))
     exact⟨u,hu,a2p (e2 k col _ hkc (z0i (by omega))) hj hdu⟩
    let σ:Env:=⟨fun s=>if s=base then some (A,c) else if s=base + 1 then some (A2,c2) else ρ s,fun g=>ρ.S g∨(ρ'.R g∧W.heap.size≤g),fun g=>ρ.T g∨(ρ'.R g∧W.heap.size≤g),ρ.X⟩
    have hσb:σ base=some (A,c):=by simp[σ]
    have hσb2:σ (base + 1)=some (A2,c2):=by simp[σ]
    have hge:∀ a,A=some a→W.heap.size≤a.block:=fun a ha=>z1z fun hlt=>(hnoS a ha).1 (hm.sub _ hlt)
    have hRle:∀ g,ρ'.R g→σ.R g:=fun g hg=>by
     by_cases hlt:W.heap.size≤g
     ·exact⟨.inr ⟨hg,hlt⟩,.inr ⟨hg,hlt⟩⟩
     ·rcases hm.rows g hg with h | h
      ·exact⟨.inl h.1,.inl h.2⟩
      ·exact absurd (z1z h) hlt
    have hag:DenL σ [.sl (base + 1) n',.sl base n',z] [.slice A2 n' c2,.slice A n' c,w3]:=DenL.cons (.sl hσb2 hA2) (DenL.cons (.sl hσb hA0) (DenL.cons (leaf σ hz0 hzz he3) (DenL.nil _)))
    have hl:DenL σ [x,.agg [.sl (base + 1) n',.sl base n',z],y] [u1,.agg (List.toArray [.slice A2 n' c2,.slice A n' c,w3]),u3]:=DenL.cons (leaf σ hx0 hxx hd1) (DenL.cons (.agg hag.1 hag.2) (DenL.cons (leaf σ hy0 hyy hd3) (DenL.nil _)))
    refine⟨σ,fun r hr=>?_,⟨fun g h=>.inl h,fun g h=>?_,fun g h=>.inl h,fun g h=>?_,rfl⟩,.tup hl.1 hl.2,⟨fun j b hj _=>?_,fun j b a c hj ho hx=>?_,fun j l b d a c x y hj hl _ _ _ _ _=>?_⟩⟩
    ·have hne:r≠base:=by intro e; simp at hr; omega
     have hne2:r≠base + 1:=by intro e; simp at hr; omega
     simp only[σ,if_neg hne,if_neg hne2]
    ·rcases h with h | h
     ·exact .inl h
     ·exact .inr ⟨h.2,hm.hS g h.1.1⟩
    ·rcases h with⟨h1 | h1,h2 | h2⟩
     ·exact .inl ⟨h1,h2⟩
     ·exact .inr h2.2
     ·exact .inr h1.2
     ·exact .inr h1.2
    ·match j,hj with
     | 0,hj =>
      simp at hj
      subst hj
      refine⟨A,c,vs,hσb,h2,fun a ha hs=>?_,hc,fun j hj k col hk=>?_⟩
      ·rcases hs with hs | hs
       ·have h1:=hS _ hs; have h2:=hge a ha; omega
       ·exact(hnoS a ha).2 hs.1
      ·obtain⟨u,hu,hdu⟩:=hcol j hj k col hk
       exact⟨u,hu,s7 hdu hRle (fun _ _=>rfl)⟩
     | 1,hj =>
      simp at hj
      subst hj
      trivial
     | j + 2,hj=>simp at hj
    ·match j,hj with
     | 0,hj =>
      simp only[z1i,hσb,z0a] at hx
      exact hge a (by simp only[z0g] at hx; exact hx.1)
     | 1,hj =>
      simp at hj
      subst hj
      cases ho
     | j + 2,hj=>simp at hj
    ·rename_i ho1 ho2 _ _ _
     match j,l,hj,hl with
     | 0,0,_,_=>rfl
     | 1,_,hj,_ =>
      simp at hj
      subst hj
      cases ho1
     | _,1,_,hl =>
      simp at hl
      subst hl
      cases ho2
     | j + 2,_,hj,_=>simp at hj
     | _,l + 2,_,hl=>simp at hl
  ·exact hx'.elim
 ·exact hx'.elim
theorem b2e {G:List (Nat × Nat)} {fid:FuncId} {fn:Func} {F:List MBlk→List SV→Option AR} (hfn:P.funcs[fid]?=some fn) (hok:o8 P fid)
  (hF:∀ m vs ar,F m vs=some ar→(∀ p∈ar.pre,p)→∃(T:Tab) (_:TabOk P T) (f:Nat→Option Nat) (m0:List MBlk) (vs0:List SV),(∀ ρ xs,DenL ρ vs xs→DenL (t5 f ρ) vs0 xs)∧ltL vs0 m0.length=true∧a0f m0=true ∧
   (∀ i k0,m0[i]?=some k0→knownAs f m m0.length i k0)∧(∀ g i,g7 T.globals g=some i→i < m0.length∧∃ r,f i=some r∧g7 G g=some r)∧T.pins=[] ∧
   ((ar.new=[]∧ar.sv.ltB 0=true∧n9 T fn vs0 m0 (l8 ar.sv))∨(∃ t e N cols,tOk t=true∧0 < cols.length∧ar.new=[.oarr e N cols]∧ar.sv=a2w m.length t∧n9 T fn vs0 m0 (a6f t e N cols))∨(∃ f,ar.new=[.mapp f]∧ar.sv=.mp m.length∧n9 T fn vs0 m0 (a79 f))∨(∃ R t,b2a R t ar.new∧ar.sv=t m.length∧n9 T fn vs0 m0 R))):CallOk P G fid F:=by
 refine⟨hok,fun ρ W m vs xs ar hGl hS hblk hf hd h hp=>?_⟩
 obtain⟨T,hT,f,m0,vs0,h1,h2,h3,h4,h5,hpin,h6⟩:=hF m vs ar h hp
 have hG:∀ g i,g7 T.globals g=some i→i < m0.length∧∃ c,(t5 f ρ) i=some (some ⟨g,0,none⟩,c):=fun g i hg=>by
  obtain⟨e1,r,e2,e3⟩:=h5 g i hg
  obtain⟨c,hc⟩:=hGl g r e3
  exact⟨e1,c,by simp only[t5,e2]; exact hc⟩
 rcases h6 with⟨e1,e2,e3⟩ | ⟨t,e,N,cols,et,e0,e1,e2,e3⟩ | ⟨f',e1,e2,e3⟩ | ⟨R,t,e1,e2,e3⟩
 ·have:=c18 (ρ:=ρ) (base:=m.length) e2 (callee hT hfn hS hblk (h1 ρ xs hd) h2 h3 h4 hG hpin e3)
  rw[e1]
  exact this
 ·have:=c76 (ρ:=ρ) (base:=m.length) et e0 hS (callee hT hfn hS hblk (h1 ρ xs hd) h2 h3 h4 hG hpin e3)
  rw[e1,e2]
  exact this
 ·have:=c75 (ρ:=ρ) (base:=m.length) hS (callee hT hfn hS hblk (h1 ρ xs hd) h2 h3 h4 hG hpin e3)
  rw[e1,e2]
  exact this
 ·rw[e2]
  exact Calls.mono (callee hT hfn hS hblk (h1 ρ xs hd) h2 h3 h4 hG hpin e3) fun ex W' ⟨v,ρ',m',sv,he,hd,hm,hx'⟩=>⟨v,he,e1 ρ W W' m.length v ρ' m' sv hS hd hm hx'⟩
theorem Den.slAs {ρ:Env} {f:Nat→Option Nat} {r i n:Nat} {v:Value} (h:Den ρ (.sl r n) v) (hf:f i=some r):Den (t5 f ρ) (.sl i n) v:=by
 obtain⟨A,c,h1,rfl,h2⟩:=h.sl_inv
 exact .sl (by simp only[t5,hf]; exact h1) h2
theorem Den.nilAs {ρ:Env} {f:Nat→Option Nat} {i:Nat} {v:Value} (h:Den ρ .nilsl v) (hf:f i=none):Den (t5 f ρ) (.sl i 0) v:=by
 cases h
 exact .sl (by simp only[t5,hf]) (fun h=>absurd h (z1k _))
theorem DenL.nilc {ρ σ:Env} {vs:List Value} (h:DenL ρ [] vs):DenL σ [] vs:=by rw[h.inv_nil]; exact DenL.nil σ
end
def b3m (P:Program) (g:TypeId→Bool) (tot:Nat):List Field→Nat→Bool
 | [],off=>Nat.beq off tot
 | x :: r,off=>Nat.beq x.offset off && g x.type && b3m P g tot r (off + P.cellsOf x.type)
def a35 (P:Program):Nat→TypeId→Bool
 | 0,_=>false
 | f + 1,t=>match P.underlying t with
  | some .bool=>true
  | some (.int _)=>true
  | some (.struct fs)=>b3m P (a35 P f) (P.cellsOf t) fs.toList 0
  | some (.array n e)=>a35 P f e && Nat.beq (n * P.cellsOf e) (P.cellsOf t)
  | _=>false
def b1i {H:Type}:Nat→DataW H→List Value
 | 0,_=>[]
 | _ + 1,.lit (.int k n)=>[.int k n]
 | _ + 1,.lit (.bool b)=>[.bool b]
 | f + 1,.agg ps=>ps.flatMap (b1i f)
 | _ + 1,_=>[]
section
variable {H:Type} {enc:TypeId × Value→H} {P:Program} {w:World} {base:Nat} {sp:Nat→Bool} {held:Bool}
theorem b77 {f fuel:Nat} {cs:List Value} {tot:Nat} (hl:cs.length=tot) (ih:∀ t cs d p,a35 P f t=true→DataW.trod enc P w base sp held fuel t cs=some (d,p)→cs=b1i f d) :
  ∀(fs:List Field) (off:Nat) (xs:List (DataW H × List MemPlace)),b3m P (a35 P f) tot fs off=true→(fs.mapM fun f=>DataW.trod enc P w base sp held fuel f.type ((cs.drop f.offset).take (P.cellsOf f.type)))=some xs→cs.drop off=(xs.map (·.1)).flatMap (b1i f):=by
 intro fs
 induction fs with
 | nil =>
  intro off xs h hm
  simp only[b3m] at h
  have:=z0b h
  simp only[List.mapM_nil,z3e,z0a] at hm
  subst hm
  rw[this,← hl]
  simp
 | cons x r ihr =>
  intro off xs h hm
  simp only[b3m,z0d] at h
  have e1:=z0b h.1.1
  simp only[List.mapM_cons,z3r,z3b,z3e,z0a] at hm
  obtain⟨⟨d,p⟩,hb,ys,hys,rfl⟩:=hm
  have h1:=ih _ _ _ _ h.1.2 hb
  have h2:=ihr _ _ h.2 hys
  rw[e1] at h1
  simp only[z2b,List.flatMap_cons]
  rw[← h1,← h2,← List.drop_drop,z2w]
theorem b90 {f fuel s e:Nat} {cs:List Value} (he:a35 P f e=true) (ih:∀ t cs d p,a35 P f t=true→DataW.trod enc P w base sp held fuel t cs=some (d,p)→cs=b1i f d) :
  ∀(m k:Nat) (xs:List (DataW H × List MemPlace)),(k + m) * s=cs.length→((List.range' k m).mapM fun i=>DataW.trod enc P w base sp held fuel e ((cs.drop (i * s)).take s))=some xs→cs.drop (k * s)=(xs.map (·.1)).flatMap (b1i f):=by
 intro m
 induction m with
 | zero =>
  intro k xs hl hm
  simp only[List.range'_zero,List.mapM_nil,z3e,z0a] at hm
  subst hm
  simp only[z1i] at hl
  rw[hl]
  simp
 | succ m ihm =>
  intro k xs hl hm
  simp only[List.range'_succ,List.mapM_cons,z3r,z3b,z3e,z0a] at hm
  obtain⟨⟨d,p⟩,hb,ys,hys,rfl⟩:=hm
  have h1:=ih _ _ _ _ he hb
  have h2:=ihm (k + 1) ys (by rw[← hl]; congr 1; omega) hys
  simp only[z2b,List.flatMap_cons]
  rw[← h1,← h2,Nat.add_mul,Nat.one_mul,← List.drop_drop,z2w]
theorem b8z:∀(f fuel:Nat) (t:TypeId) (cs:List Value) (d:DataW H) (p:List MemPlace),a35 P f t=true→DataW.trod enc P w base sp held fuel t cs=some (d,p)→cs=b1i f d:=by
 intro f
 induction f with
 | zero=>intro fuel t cs d p h; simp[a35] at h
 | succ f ih =>
  intro fuel t cs d p h hd
  cases fuel with
  | zero=>simp[DataW.trod] at hd
  | succ fuel =>
   simp only[a35] at h
   split at h
   ·rename_i ht
    obtain⟨b,rfl,hx⟩:=DataW.trod_bool ht hd
    simp only[z0g] at hx
    obtain⟨rfl,_⟩:=hx
    rfl
   ·rename_i k ht
    obtain⟨n,rfl,hx,_⟩:=DataW.trod_int ht hd
    simp only[z0g] at hx
    obtain⟨rfl,_⟩:=hx
    rfl
   ·rename_i fs ht
    simp only[DataW.trod,ht] at hd
    split at hd
    ·rename_i hl
     obtain⟨xs,hm,hx⟩:=z0h.1 hd
     simp only[z0g] at hx
     obtain⟨rfl,_⟩:=hx
     have:=b77 hl (fun t cs d p=>ih fuel t cs d p) fs.toList 0 xs h hm
     simpa [b1i] using this
    ·cases hd
   ·rename_i n e ht
    simp only[z0d] at h
    have e1:=z0b h.2
    simp only[DataW.trod,ht] at hd
    split at hd
    ·rename_i hl
     obtain⟨xs,hm,hx⟩:=z0h.1 hd
     simp only[z0g] at hx
     obtain⟨rfl,_⟩:=hx
     rw[List.range_eq_range'] at hm
     have:=b90 h.1 (fun t cs d p=>ih fuel t cs d p) n 0 xs (by rw[z1d,e1,hl]) hm
     simpa [b1i] using this
    ·cases hd
   ·cases h
end
def b7x:Col→Bool
 | .int _ _=>true
 | .bool _=>true
 | _=>false
def b7m (cells:List Value) (sz:Nat) (cols:List Col):Nat→Bool
 | 0=>true
 | j + 1=>(List.range cols.length).all (fun k=>match cells[j * sz + k]?,cols[k]? with
  | some v,some c=>d0n (b53 c j) v && b7x c
  | _,_=>false) && b7m cells sz cols j
theorem b46 {cells:List Value} {sz:Nat} {cols:List Col}:∀ {n:Nat},b7m cells sz cols n=true→∀ j,j < n→∀ k col,cols[k]?=some col→∃ v,cells[j * sz + k]?=some v∧∀ S W,j4 S W col j v:=by
 intro n
 induction n with
 | zero=>intro _ j hj; omega
 | succ n ih =>
  intro h j hj k col hk
  simp only[b7m,z0d,z2k,z2q] at h
  by_cases e:j=n
  ·subst e
   have:=h.1 k (z0c.1 hk).1
   rw[hk] at this
   split at this
   ·rename_i v c hv hc
    simp only[z0a] at hc
    subst hc
    rw[z0d] at this
    refine⟨v,hv,?_⟩
    have hd:=b9p ⟨fun _=>none,fun _=>False,fun _=>False,fun _ _=>False⟩ this.1
    cases col with
    | any=>intro S W; trivial
    | rows len gs=>simp[b7x] at this
    | int kk g=>simp only[b53] at hd; intro S W; exact hd.i_inv
    | bool g=>simp only[b53] at hd; intro S W; exact hd.b_inv
   ·cases this
  ·exact ih h.2 j (by omega) k col hk
theorem c3w {P:Program} {W:World} {name:String} {d:DataW Unit} {rest:List (String × DataW Unit)} {g t f:Nat} (hg:P.globalNamed name=some g) (hty:(P.globals[g]?).map (·.type)=some t) (hp:a35 P f t=true) (h:laidMet P ((name,d) :: rest) W) :
  W.var? P name=some (b1i f d).toArray:=by
 obtain⟨ps,⟨g',t',cs,fuel,p,q,hg',ht',hvar,hd,_,_⟩,_⟩:=h
 obtain rfl:=Option.some.inj (hg.symm.trans hg')
 obtain rfl:=Option.some.inj (hty.symm.trans ht')
 have e:=b8z f _ _ _ _ _ hp hd
 rw[hvar,← e]
open Go Go.RowKit Go.ChangeShapes Go.WideShapes
def b32 (P:Program) (g:TypeId→Option (List (Option IntKind))) (tot:Nat):List Field→Nat→Option (List (Option IntKind))
 | [],off=>bif Nat.beq off tot then some [] else none
 | x :: r,off=>bif Nat.beq x.offset off then(match g x.type with
  | some ks=>bif Nat.beq ks.length (P.cellsOf x.type) then(match b32 P g tot r (off + P.cellsOf x.type) with
   | some l=>some (ks ++ l)
   | none=>none) else none
  | none=>none) else none
def b6o (ks:List (Option IntKind)):Nat→List (Option IntKind)
 | 0=>[]
 | n + 1=>ks ++ b6o ks n
def a33 (P:Program):Nat→TypeId→Option (List (Option IntKind))
 | 0,_=>none
 | f + 1,t=>match P.underlying t with
  | some .bool=>some [none]
  | some (.int k)=>some [some k]
  | some (.struct fs)=>b32 P (a33 P f) (P.cellsOf t) fs.toList 0
  | some (.array n e)=>match a33 P f e with
   | some ks=>bif Nat.beq (n * P.cellsOf e) (P.cellsOf t) && Nat.beq ks.length (P.cellsOf e) then some (b6o ks n) else none
   | none=>none
  | _=>none
def b7v:Option IntKind→Value→Prop
 | some k,v=>∃ n,v=.int k n∧(Lit.int k n).wf=true
 | none,v=>∃ b,v=.bool b
def a2e:List (Option IntKind)→List Value→Prop
 | [],[]=>True
 | k :: ks,v :: vs=>b7v k v∧a2e ks vs
 | _,_=>False
theorem a7t {a b:List (Option IntKind)} {x y:List Value} (h:a2e a x) (h':a2e b y):a2e (a ++ b) (x ++ y):=by
 induction a generalizing x with
 | nil=>cases x <;> simp[a2e] at h; simpa using h'
 | cons k ks ih =>
  cases x with
  | nil=>simp[a2e] at h
  | cons v vs=>exact⟨h.1,ih h.2⟩
section
variable {H:Type} {enc:TypeId × Value→H} {P:Program} {w:World} {base:Nat} {sp:Nat→Bool} {held:Bool}
theorem b6p {f fuel:Nat} {cs:List Value} {tot:Nat} (hl:cs.length=tot) (ih:∀ t cs d p ks,a33 P f t=some ks→DataW.trod enc P w base sp held fuel t cs=some (d,p)→a2e ks cs∧p=[]) :
  ∀(fs:List Field) (off:Nat) (xs:List (DataW H × List MemPlace)) (ks:List (Option IntKind)),b32 P (a33 P f) tot fs off=some ks→(fs.mapM fun f=>DataW.trod enc P w base sp held fuel f.type ((cs.drop f.offset).take (P.cellsOf f.type)))=some xs→a2e ks (cs.drop off)∧xs.flatMap (·.2)=[]:=by
 intro fs
 induction fs with
 | nil =>
  intro off xs ks h hm
  simp only[b32] at h
  cases e:Nat.beq off tot
  ·simp[e] at h
  ·simp only[e,z0f,z0a] at h
   have:=z0b e
   simp only[List.mapM_nil,z3e,z0a] at hm
   subst hm h
   rw[this,← hl]
   simp[a2e]
 | cons x r ihr =>
  intro off xs ks h hm
  simp only[b32] at h
  cases e:Nat.beq x.offset off
  ·simp[e] at h
  ·simp only[e,z0f] at h
   have e1:=z0b e
   split at h
   ·rename_i k1 hk1
    cases e2:Nat.beq k1.length (P.cellsOf x.type)
    ·simp[e2] at h
    ·simp only[e2,z0f] at h
     split at h
     ·rename_i l hl2
      simp only[z0a] at h
      subst h
      simp only[List.mapM_cons,z3r,z3b,z3e,z0a] at hm
      obtain⟨⟨d,p⟩,hb,ys,hys,rfl⟩:=hm
      obtain⟨h1,h1'⟩:=ih _ _ _ _ _ hk1 hb
      obtain⟨h2,h2'⟩:=ihr _ _ _ hl2 hys
      rw[e1] at h1
      refine⟨?_,by simp[h1',h2']⟩
      rw[← z2w (P.cellsOf x.type) (cs.drop off),List.drop_drop]
      exact a7t h1 h2
     ·cases h
   ·cases h
theorem b8b {f fuel s e:Nat} {cs:List Value} {ks:List (Option IntKind)} (he:a33 P f e=some ks) (ih:∀ t cs d p ks,a33 P f t=some ks→DataW.trod enc P w base sp held fuel t cs=some (d,p)→a2e ks cs∧p=[]) :
  ∀(m k:Nat) (xs:List (DataW H × List MemPlace)),(k + m) * s=cs.length→((List.range' k m).mapM fun i=>DataW.trod enc P w base sp held fuel e ((cs.drop (i * s)).take s))=some xs→a2e (b6o ks m) (cs.drop (k * s))∧xs.flatMap (·.2)=[]:=by
 intro m
 induction m with
 | zero =>
  intro k xs hl hm
  simp only[List.range'_zero,List.mapM_nil,z3e,z0a] at hm
  subst hm
  simp only[z1i] at hl
  rw[hl]
  simp[b6o,a2e]
 | succ m ihm =>
  intro k xs hl hm
  simp only[List.range'_succ,List.mapM_cons,z3r,z3b,z3e,z0a] at hm
  obtain⟨⟨d,p⟩,hb,ys,hys,rfl⟩:=hm
  obtain⟨h1,h1'⟩:=ih _ _ _ _ _ he hb
  obtain⟨h2,h2'⟩:=ihm (k + 1) ys (by rw[← hl]; congr 1; omega) hys
  refine⟨?_,by simp[h1',h2']⟩
  rw[← z2w s (cs.drop (k * s)),List.drop_drop]
  rw[Nat.add_mul,Nat.one_mul] at h2
  exact a7t h1 h2
theorem b8a:∀(f fuel:Nat) (t:TypeId) (cs:List Value) (d:DataW H) (p:List MemPlace) (ks:List (Option IntKind)),a33 P f t=some ks→DataW.trod enc P w base sp held fuel t cs=some (d,p)→a2e ks cs∧p=[]:=by
 intro f
 induction f with
 | zero=>intro fuel t cs d p ks h; simp[a33] at h
 | succ f ih =>
  intro fuel t cs d p ks h hd
  cases fuel with
  | zero=>simp[DataW.trod] at hd
  | succ fuel =>
   simp only[a33] at h
   split at h
   ·rename_i ht
    simp only[z0a] at h
    subst h
    obtain⟨b,rfl,hx⟩:=DataW.trod_bool ht hd
    simp only[z0g] at hx
    exact⟨⟨⟨b,rfl⟩,trivial⟩,hx.2⟩
   ·rename_i k ht
    simp only[z0a] at h
    subst h
    obtain⟨n,rfl,hx,hw⟩:=DataW.trod_int ht hd
    simp only[z0g] at hx
    exact⟨⟨⟨n,rfl,hw⟩,trivial⟩,hx.2⟩
   ·rename_i fs ht
    simp only[DataW.trod,ht] at hd
    split at hd
    ·rename_i hl
     obtain⟨xs,hm,hx⟩:=z0h.1 hd
     simp only[z0g] at hx
     have:=b6p hl (fun t cs d p ks=>ih fuel t cs d p ks) fs.toList 0 xs _ h hm
     exact⟨by simpa using this.1,by rw[← hx.2]; exact this.2⟩
    ·cases hd
   ·rename_i n e ht
    split at h
    ·rename_i k1 hk1
     cases e2:(Nat.beq (n * P.cellsOf e) (P.cellsOf t) && Nat.beq k1.length (P.cellsOf e))
     ·simp[e2] at h
     ·simp only[e2,z0f,z0a] at h
      subst h
      simp only[z0d] at e2
      have e1:=z0b e2.1
      simp only[DataW.trod,ht] at hd
      split at hd
      ·rename_i hl
       obtain⟨xs,hm,hx⟩:=z0h.1 hd
       simp only[z0g] at hx
       rw[List.range_eq_range'] at hm
       have:=b8b hk1 (fun t cs d p ks=>ih fuel t cs d p ks) n 0 xs (by rw[z1d,e1,hl]) hm
       exact⟨by simpa using this.1,by rw[← hx.2]; exact this.2⟩
      ·cases hd
    ·cases h
   ·cases h
end
section
variable {H:Type} {enc:TypeId × Value→H} {P:Program}
def a4s (P:Program) (ts:List TypeId):Bool:=ts.all fun t=>P.readableRec t && decide (t < P.types.size)
theorem a83 {W W':World} {sp:Nat→Bool} (hl:laidOutB P=true) (hb:Below W.heap.size W W'):∀ {ts:List TypeId} {vs:List Value} {ds:List (DataW H)} {ps:List MemPlace},a4s P ts=true→DataW.TrodAll enc P W 0 (fun _=>true) true ts vs ds ps→(∀ p∈ps,sp p.block=true)→DataW.TrodAll enc P W' 0 sp true ts vs ds ps
 | [],[],[],_,_,h,_=>h
 | [],_ :: _,_,_,_,h,_=>h.elim
 | [],[],_ :: _,_,_,h,_=>h.elim
 | _ :: _,[],_,_,_,h,_=>h.elim
 | _ :: _,_ :: _,[],_,_,h,_=>h.elim
 | t :: ts,v :: vs,d :: ds,ps,hr,h,hs=>by
  have hlt:=h.lt
  obtain⟨p,q,h1,h2,e⟩:=h
  simp only[a4s,List.all_cons,z0d,z1p] at hr
  exact⟨p,q,WideElems.Trod_stays hl hr.1.1 hr.1.2 h1 (fun x hx=>hb.same (hlt x (by rw[e]; simp[hx]))) (fun x hx=>hs x (by rw[e]; simp[hx])),a83 hl hb (by simpa [a4s] using hr.2) h2 (fun x hx=>hs x (by rw[e]; simp[hx])),e⟩
theorem c74 {f:Func} {s:ChangeSpec} {apart fresh handsOn again:Bool} {W W':World} {args:Array Value} {ds gs:List (DataW H)} {before:List MemPlace} {tb:TypeId} (hl:laidOutB P=true) (hr:a4s P f.params.toList=true)
  (hres:f.resultTypes = #[tb]) (htb:P.underlying tb=some .bool) (hv:s.vars=[]) (hs:s.fn H (ds ++ gs) = { results:=[.lit (.bool true)],args:=ds })
  (hW:DataW.Whole enc P f.params.toList s.vars apart W args.toList ds gs before) (hb:Below W.heap.size W W'):s.post enc P f apart fresh handsOn again W args (.bool true) W':=by
 have hW':=hW
 have hltW:=hW.lt
 obtain⟨p,q,hA,hV,rfl,hfz,hnd⟩:=hW
 rw[hv] at hV
 obtain⟨rfl,rfl⟩:=trodVars_none hV
 have hlt:∀ x∈p,x.block < W.heap.size:=fun x hx=>hltW x (by simp[hx])
 have key:∀ sp:Nat→Bool,(∀ x∈p,sp x.block=true)→DataW.TrodAll enc P W' 0 sp true f.params.toList args.toList (s.fn H (ds ++ [])).args p:=fun sp hsp=>by
  rw[hs]; exact a83 hl hb hr hA hsp
 have kres:∀(b:Nat) (sp:Nat→Bool) (hd:Bool),DataW.TrodAll enc P W' b sp hd f.resultTypes.toList ((Value.bool true).resultList f.resultTypes.size) (s.fn H (ds ++ [])).results []:=fun b sp hd=>by
  rw[hs,hres]
  exact trodAll_cons_mk (shut_bool htb true) trodAll_mk0
 have kvars:∀ sp:Nat→Bool,DataW.TrodVars enc P W' sp s.vars (s.fn H (ds ++ [])).vars []:=fun sp=>by
  rw[hv,hs]; exact rfl
 refine⟨ds,[],p ++ [],[],p,[],hW',kres _ _ _,key _ (fun x hx=>by simpa using hlt x hx),kvars _,World.keptBut_mono (fun x hx=>⟨hx,Or.inr (by simpa using hx)⟩) (hb.frame (·∈p ++ [])),fun _=>?_⟩
 refine⟨ok_one hres rfl (okWide_bool_mk htb true),_,_,([] ++ p) ++ [],⟨[] ++ p,[],trodAll_append (key _ (fun _ _=>rfl)) (kres _ _ _),kvars _,rfl,?_,?_⟩,?_⟩
 ·intro b off hp
  have hin:MemPlace.cell b off∈p ++ []:=by simpa using hp
  rw[hb.frozen (hltW _ hin)]
  exact hfz b off hin
 ·intro ha
  simpa using hnd ha
 ·intro x hx _
  simpa using hx
end
end Go.Proofs.YtaeeaniofljmnaaGreatDoor.Sx

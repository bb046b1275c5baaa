/-
  A part of the proof (Yx2).
-/
import Derived.Test.YtaeeaniofljmnaaGreatDoorYx1
import Derived.MapKept
namespace Go.Proofs.YtaeeaniofljmnaaGreatDoor.Sx
set_option linter.unusedSimpArgs false
set_option linter.unusedVariables false
open Go Go.RowKit
universe u
section basics
variable {α:Type u}
theorem t0 (l:List α) (n:Nat):nth l n=l[n]?:=by
 induction l generalizing n with
 | nil=>simp[nth]
 | cons x r ih=>cases n <;> simp[nth,ih]
theorem d8 (l:List α) (n:Nat) (y:α):(i4 l n y).length=l.length:=by
 induction l generalizing n with
 | nil=>rfl
 | cons x r ih=>cases n <;> simp[i4,ih]
theorem j7 (l:List α) (n:Nat) (y:α) (j:Nat):(i4 l n y)[j]?=if j=n∧n < l.length then some y else l[j]?:=by
 induction l generalizing n j with
 | nil=>simp[i4]
 | cons x r ih =>
  cases n with
  | zero=>cases j <;> simp[i4]
  | succ n =>
   cases j with
   | zero=>simp[i4]
   | succ j=>simp[i4,ih]
theorem w5 {l:List (Nat × α)} {n:Nat} {x:α} (h:g7 l n=some x):(n,x)∈l:=by
 induction l with
 | nil=>simp[g7] at h
 | cons p r ih =>
  obtain⟨k,y⟩:=p
  simp only[g7] at h
  cases hk:Nat.beq k n
  ·simp only[hk,z0m] at h; exact z0w _ (ih h)
  ·simp only[hk,z0f,z0a] at h
   have:=z0b hk
   subst this; subst h; exact z1h
theorem b9r {n:Nat} {l r:List α} (h:b47 n l=some r):r=l.take n∧n≤l.length:=by
 induction n generalizing l r with
 | zero=>simp only[b47,z0a] at h; subst h; simp
 | succ n ih =>
  cases l with
  | nil=>simp[b47] at h
  | cons x l =>
   simp only[b47,z0h] at h
   obtain⟨q,hq,rfl⟩:=h
   obtain⟨rfl,hl⟩:=ih hq
   simp; omega
theorem a3o (n:Nat) (l:List α):a12 n l=l.drop n:=by
 induction n generalizing l with
 | zero=>rfl
 | succ n ih=>cases l <;> simp[a12,ih]
theorem a8q {cs:List α} {n:Nat} {vs r:List α} (h:a45 cs n vs=some r) :
  r.length=cs.length∧n + vs.length≤cs.length∧∀ j,r[j]?=if n≤j∧j < n + vs.length then vs[j - n]? else cs[j]?:=by
 induction cs generalizing n vs r with
 | nil=>cases n <;> cases vs <;> simp[a45] at h; subst h; simp
 | cons c cs ih =>
  cases n with
  | zero =>
   cases vs with
   | nil=>simp[a45] at h; subst h; refine⟨rfl,by simp,fun j=>?_⟩; simp; try omega
   | cons v vs =>
    simp only[a45,z0h] at h
    obtain⟨q,hq,rfl⟩:=h
    obtain⟨h1,h2,h3⟩:=ih hq
    refine⟨by simp[h1],by simp at h2 ⊢; omega,fun j=>?_⟩
    cases j with
    | zero=>simp
    | succ j=>simp[h3 j]
  | succ n =>
   have h':(a45 cs n vs).map (c :: ·)=some r:=by cases vs <;> exact h
   simp only[z0h] at h'
   obtain⟨q,hq,rfl⟩:=h'
   obtain⟨h1,h2,h3⟩:=ih hq
   refine⟨by simp[h1],by simp; omega,fun j=>?_⟩
   cases j with
   | zero=>simp
   | succ j =>
    simp only[z1t,h3 j]
    congr 1
    ·simp; omega
    ·congr 1; omega
end basics
theorem a0s {n:Nat} {l:List Nat}:y4 n l=true↔n∈l:=by
 induction l with
 | nil=>simp[y4]
 | cons x r ih=>simp[y4,ih]
theorem u4 {k k':IntKind}:kEq k k'=true↔k=k':=by cases k <;> cases k' <;> simp[kEq]
theorem w6 (a:Addr) (i j:Nat):(a.add i).add j=a.add (i + j):=by
 unfold Addr.add
 by_cases hi:i=0 <;> by_cases hj:j=0 <;> simp[hi,hj,z2v]
theorem block_add (a:Addr) (n:Nat):(a.add n).block=a.block:=by unfold Addr.add; split <;> rfl
structure Env where
 f:Nat→Option (Option Addr × Nat)
 S:Nat→Prop
 T:Nat→Prop
 X:Nat→Nat→Prop
instance:CoeFun Env fun _=>Nat→Option (Option Addr × Nat):=⟨Env.f⟩
def Env.R (ρ:Env):Nat→Prop:=fun g=>ρ.S g∧ρ.T g
inductive Den (ρ:Env):SV→Value→Prop
 | tt:Den ρ .tt (.bool true)
 | ff:Den ρ .ff (.bool false)
 | nilsl:Den ρ .nilsl (.slice none 0 0)
 | nilptr:Den ρ .nilptr (.pointer none)
 | nilmap:Den ρ .nilmap (.map none)
 | dead (x:Value):Den ρ .dead x
 | b (x:Bool):Den ρ (.b x) (.bool x)
 | i (k:IntKind) (n:Int):Den ρ (.i k n) (.int k n)
 | ptr {r off:Nat} {a:Addr} {c:Nat}:ρ r=some (some a,c)→Den ρ (.ptr r off) (.pointer (some (a.add off)))
 | pix {r sz ix off:Nat} {a:Addr} {c:Nat}:ρ r=some (some a,c)→Den ρ (.pix r sz ix off) (.pointer (some (a.add (ix * sz + off))))
 | sl {r n:Nat} {A:Option Addr} {c:Nat}:ρ r=some (A,c)→(0 < n→A≠none)→Den ρ (.sl r n) (.slice A n c)
 | sub {r sz lo n:Nat} {A:Option Addr} {c:Nat} {A':Option Addr} {c':Nat}:ρ r=some (A,c)→(0 < n→A≠none∧A'=A.map (·.add (lo * sz)))→Den ρ (.sub r sz lo n) (.slice A' n c')
 | mp {r g c:Nat}:ρ r=some (some ⟨g,0,none⟩,c)→Den ρ (.mp r) (.map (some g))
 | agg {xs:List SV} {vs:List Value}:vs.length=xs.length→(∀(j:Nat) (x:SV) (v:Value),xs[j]?=some x→vs[j]?=some v→Den ρ x v)→Den ρ (.agg xs) (.agg vs.toArray)
 | tup {xs:List SV} {vs:List Value}:vs.length=xs.length→(∀(j:Nat) (x:SV) (v:Value),xs[j]?=some x→vs[j]?=some v→Den ρ x v)→Den ρ (.tup xs) (.tuple vs.toArray)
 | fn {f:Nat} {xs:List SV} {vs:List Value}:vs.length=xs.length→(∀(j:Nat) (x:SV) (v:Value),xs[j]?=some x→vs[j]?=some v→Den ρ x v)→Den ρ (.fn f xs) (.func (.func f) #[] vs.toArray)
 | yld {r g c:Nat}:ρ r=some (some ⟨g,0,none⟩,c)→Den ρ (.yld r) (.func (.yield g) #[] #[])
 | v (x:Value):Den ρ (.v x) x
def DenL (ρ:Env) (xs:List SV) (vs:List Value):Prop:=vs.length=xs.length∧∀(j:Nat) (x:SV) (v:Value),xs[j]?=some x→vs[j]?=some v→Den ρ x v
theorem DenL.nil (ρ:Env):DenL ρ [] []:=⟨rfl,fun j x v h=>by simp at h⟩
theorem DenL.cons {ρ:Env} {x:SV} {xs:List SV} {v:Value} {vs:List Value} (h:Den ρ x v) (hs:DenL ρ xs vs):DenL ρ (x :: xs) (v :: vs):=
 ⟨by simp[hs.1],fun j y u hy hu=>by
  cases j with
  | zero=>simp at hy hu; subst hy; subst hu; exact h
  | succ j=>simp at hy hu; exact hs.2 j y u hy hu⟩
theorem DenL.inv {ρ:Env} {x:SV} {xs:List SV} {ws:List Value} (h:DenL ρ (x :: xs) ws):∃ v vs,ws=v :: vs∧Den ρ x v∧DenL ρ xs vs:=by
 obtain⟨h1,h2⟩:=h
 cases ws with
 | nil=>simp at h1
 | cons v vs=>exact⟨v,vs,rfl,h2 0 x v rfl rfl,by simpa using h1,fun j y u hy hu=>h2 (j + 1) y u (by simpa using hy) (by simpa using hu)⟩
theorem DenL.inv_nil {ρ:Env} {ws:List Value} (h:DenL ρ [] ws):ws=[]:=List.eq_nil_of_length_eq_zero (by simpa using h.1)
theorem DenL.get {ρ:Env} {xs:List SV} {vs:List Value} (h:DenL ρ xs vs) {j:Nat} {x:SV} (hx:xs[j]?=some x):∃ v,vs[j]?=some v∧Den ρ x v:=by
 have hj:j < xs.length:=(z0c.1 hx).1
 have hj':j < vs.length:=by rw[h.1]; exact hj
 exact⟨vs[j],z0i hj',h.2 j x _ hx (z0i hj')⟩
section inversion
variable {ρ:Env} {v:Value}
theorem Den.tt_inv (h:Den ρ .tt v):v=.bool true:=by cases h; rfl
theorem Den.ff_inv (h:Den ρ .ff v):v=.bool false:=by cases h; rfl
theorem Den.b_inv {x:Bool} (h:Den ρ (.b x) v):v=.bool x:=by cases h; rfl
theorem Den.i_inv {k:IntKind} {n:Int} (h:Den ρ (.i k n) v):v=.int k n:=by cases h; rfl
theorem Den.ptr_inv {r off:Nat} (h:Den ρ (.ptr r off) v):∃ a c,ρ r=some (some a,c)∧v=.pointer (some (a.add off)):=by cases h with | ptr h=>exact⟨_,_,h,rfl⟩
theorem Den.pix_inv {r sz ix off:Nat} (h:Den ρ (.pix r sz ix off) v):∃ a c,ρ r=some (some a,c)∧v=.pointer (some (a.add (ix * sz + off))):=by cases h with | pix h=>exact⟨_,_,h,rfl⟩
theorem Den.sl_inv {r n:Nat} (h:Den ρ (.sl r n) v):∃ A c,ρ r=some (A,c)∧v=.slice A n c∧(0 < n→A≠none):=by cases h with | sl h h'=>exact⟨_,_,h,rfl,h'⟩
theorem Den.sub_inv {r sz lo n:Nat} (h:Den ρ (.sub r sz lo n) v):∃ A c A' c',ρ r=some (A,c)∧v=.slice A' n c'∧(0 < n→A≠none∧A'=A.map (·.add (lo * sz))):=by cases h with | sub h h'=>exact⟨_,_,_,_,h,rfl,h'⟩
theorem Den.yld_inv {r:Nat} (h:Den ρ (.yld r) v):∃ g c,ρ r=some (some ⟨g,0,none⟩,c)∧v=.func (.yield g) #[] #[]:=by cases h with | yld h=>exact⟨_,_,h,rfl⟩
theorem Den.agg_inv {xs:List SV} (h:Den ρ (.agg xs) v):∃ vs,v=.agg vs.toArray∧DenL ρ xs vs:=by cases h with | agg h1 h2=>exact⟨_,rfl,h1,h2⟩
theorem Den.tup_inv {xs:List SV} (h:Den ρ (.tup xs) v):∃ vs,v=.tuple vs.toArray∧DenL ρ xs vs:=by cases h with | tup h1 h2=>exact⟨_,rfl,h1,h2⟩
theorem Den.bOf {x:SV} {b:Bool} (h:Den ρ x v) (hb:Sx.bOf x=some b):v=.bool b:=by
 cases x <;> simp[Sx.bOf] at hb <;> subst hb <;> cases h <;> rfl
end inversion
theorem c9u (ρ:Env) (x:Value):Den ρ (ofV x) x:=by
 unfold ofV
 split <;> first | exact .tt | exact .ff | exact .i _ _ | exact .nilsl | exact .nilptr | exact .nilmap | exact .v _
theorem Den.mono {ρ σ:Env} {x:SV} {v:Value} (h:Den ρ x v) (hle:∀ r y,ρ r=some y→σ r=some y):Den σ x v:=by
 induction h with
 | tt=>exact .tt
 | ff=>exact .ff
 | nilsl=>exact .nilsl
 | nilptr=>exact .nilptr
 | nilmap=>exact .nilmap
 | dead x=>exact .dead x
 | b x=>exact .b x
 | i k n=>exact .i k n
 | ptr h=>exact .ptr (hle _ _ h)
 | pix h=>exact .pix (hle _ _ h)
 | sl h h'=>exact .sl (hle _ _ h) h'
 | sub h h'=>exact .sub (hle _ _ h) h'
 | mp h=>exact .mp (hle _ _ h)
 | agg h1 _ ih=>exact .agg h1 ih
 | tup h1 _ ih=>exact .tup h1 ih
 | fn h1 _ ih=>exact .fn h1 ih
 | yld h=>exact .yld (hle _ _ h)
 | v x=>exact .v x
theorem DenL.mono {ρ σ:Env} {xs:List SV} {vs:List Value} (h:DenL ρ xs vs) (hle:∀ r y,ρ r=some y→σ r=some y):DenL σ xs vs:=
 ⟨h.1,fun j x v hx hv=>(h.2 j x v hx hv).mono hle⟩
theorem b0h {xs:List SV} {l:List Nat} (h:a3t xs l=false) {j:Nat} {x:SV} (hx:xs[j]?=some x):x.refs l=false:=by
 induction xs generalizing j with
 | nil=>simp at hx
 | cons y r ih =>
  simp only[a3t,z1o] at h
  cases j with
  | zero=>simp at hx; subst hx; exact h.1
  | succ j=>exact ih h.2 (by simpa using hx)
theorem Den.but {ρ σ:Env} {x:SV} {v:Value} {l:List Nat} (h:Den ρ x v) (hr:x.refs l=false) (hle:∀ r y,r ∉ l→ρ r=some y→σ r=some y):Den σ x v:=by
 have nm:∀ {r:Nat},y4 r l=false→r ∉ l:=fun h hm=>by rw[a0s.2 hm] at h; cases h
 induction h with
 | tt=>exact .tt
 | ff=>exact .ff
 | nilsl=>exact .nilsl
 | nilptr=>exact .nilptr
 | nilmap=>exact .nilmap
 | dead x=>exact .dead x
 | b x=>exact .b x
 | i k n=>exact .i k n
 | ptr h=>simp only[SV.refs] at hr; exact .ptr (hle _ _ (nm hr) h)
 | pix h=>simp only[SV.refs] at hr; exact .pix (hle _ _ (nm hr) h)
 | sl h h'=>simp only[SV.refs] at hr; exact .sl (hle _ _ (nm hr) h) h'
 | sub h h'=>simp only[SV.refs] at hr; exact .sub (hle _ _ (nm hr) h) h'
 | mp h=>simp only[SV.refs] at hr; exact .mp (hle _ _ (nm hr) h)
 | agg h1 _ ih=>simp only[SV.refs] at hr; exact .agg h1 fun j x v hx hv=>ih j x v hx hv (b0h hr hx)
 | tup h1 _ ih=>simp only[SV.refs] at hr; exact .tup h1 fun j x v hx hv=>ih j x v hx hv (b0h hr hx)
 | fn h1 _ ih=>simp only[SV.refs] at hr; exact .fn h1 fun j x v hx hv=>ih j x v hx hv (b0h hr hx)
 | yld h=>simp only[SV.refs] at hr; exact .yld (hle _ _ (nm hr) h)
 | v x=>exact .v x
theorem Den.kill {ρ σ:Env} {x:SV} {v:Value} {l:List Nat} (h:Den ρ x v) (hle:∀ r y,r ∉ l→ρ r=some y→σ r=some y):Den σ (a3w l x) v:=by
 unfold a3w
 cases hr:x.refs l
 ·exact h.but hr hle
 ·exact .dead v
theorem b04 (l:List Nat) (xs:List SV):(q9 l xs).length=xs.length:=by
 induction xs with
 | nil=>rfl
 | cons x r ih=>simp[q9,ih]
theorem a09 (l:List Nat) (xs:List SV) (j:Nat):(q9 l xs)[j]?=(xs[j]?).map (a3w l):=by
 induction xs generalizing j with
 | nil=>simp[q9]
 | cons x r ih=>cases j <;> simp[q9,ih]
theorem DenL.kill {ρ σ:Env} {xs:List SV} {vs:List Value} {l:List Nat} (h:DenL ρ xs vs) (hle:∀ r y,r ∉ l→ρ r=some y→σ r=some y):DenL σ (q9 l xs) vs:=by
 refine⟨by rw[b04]; exact h.1,fun j x v hx hv=>?_⟩
 rw[a09,z0h] at hx
 obtain⟨y,hy,rfl⟩:=hx
 exact(h.2 j y v hy hv).kill hle
theorem a23 {xs:List SV} {n:Nat} (h:ltL xs n=true) {j:Nat} {x:SV} (hx:xs[j]?=some x):x.ltB n=true:=by
 induction xs generalizing j with
 | nil=>simp at hx
 | cons y r ih =>
  simp only[ltL,z0d] at h
  cases j with
  | zero=>simp at hx; subst hx; exact h.1
  | succ j=>exact ih h.2 (by simpa using hx)
def Lies (D:Nat→Prop) (x:SV):Prop:=∀(ρ σ:Env) (v:Value),(∀ r y,D r→ρ r=some y→σ r=some y)→Den ρ x v→Den σ x v
theorem Den.lies {ρ:Env} {x:SV} {v:Value} (h:Den ρ x v):Lies (fun r=>ρ r≠none) x:=by
 induction h with
 | tt=>intro _ _ _ _ h; cases h; exact .tt
 | ff=>intro _ _ _ _ h; cases h; exact .ff
 | nilsl=>intro _ _ _ _ h; cases h; exact .nilsl
 | nilptr=>intro _ _ _ _ h; cases h; exact .nilptr
 | nilmap=>intro _ _ _ _ h; cases h; exact .nilmap
 | dead x=>intro _ _ _ _ _; exact .dead _
 | b x=>intro _ _ _ _ h; cases h; exact .b _
 | i k n=>intro _ _ _ _ h; cases h; exact .i _ _
 | ptr h0=>intro _ _ _ hle h; cases h with | ptr h=>exact .ptr (hle _ _ (by simp[h0]) h)
 | pix h0=>intro _ _ _ hle h; cases h with | pix h=>exact .pix (hle _ _ (by simp[h0]) h)
 | sl h0 _=>intro _ _ _ hle h; cases h with | sl h h'=>exact .sl (hle _ _ (by simp[h0]) h) h'
 | sub h0 _=>intro _ _ _ hle h; cases h with | sub h h'=>exact .sub (hle _ _ (by simp[h0]) h) h'
 | mp h0=>intro _ _ _ hle h; cases h with | mp h=>exact .mp (hle _ _ (by simp[h0]) h)
 | yld h0=>intro _ _ _ hle h; cases h with | yld h=>exact .yld (hle _ _ (by simp[h0]) h)
 | agg h1 h2 ih =>
  intro ρ' σ v hle h
  cases h with
  | agg k1 k2 =>
   refine .agg k1 fun j x u hx hu=>?_
   have hj:=(z0c.1 hx).1
   exact ih j x _ hx (z0i (by omega)) ρ' σ u hle (k2 j x u hx hu)
 | tup h1 h2 ih =>
  intro ρ' σ v hle h
  cases h with
  | tup k1 k2 =>
   refine .tup k1 fun j x u hx hu=>?_
   have hj:=(z0c.1 hx).1
   exact ih j x _ hx (z0i (by omega)) ρ' σ u hle (k2 j x u hx hu)
 | fn h1 h2 ih =>
  intro ρ' σ v hle h
  cases h with
  | fn k1 k2 =>
   refine .fn k1 fun j x u hx hu=>?_
   have hj:=(z0c.1 hx).1
   exact ih j x _ hx (z0i (by omega)) ρ' σ u hle (k2 j x u hx hu)
 | v x=>intro _ _ _ _ h; cases h; exact .v _
theorem a05 {x:SV} {n:Nat}:∀ {ρ σ:Env} {v:Value},x.ltB n=true→(∀ r y,r < n→ρ r=some y→σ r=some y)→Den ρ x v→Den σ x v:=by
 intro ρ σ v hx hle h
 induction h with
 | tt=>exact .tt
 | ff=>exact .ff
 | nilsl=>exact .nilsl
 | nilptr=>exact .nilptr
 | nilmap=>exact .nilmap
 | dead x=>exact .dead x
 | b x=>exact .b x
 | i k n=>exact .i k n
 | ptr h=>simp only[SV.ltB] at hx; exact .ptr (hle _ _ (by simpa [z0u] using hx) h)
 | pix h=>simp only[SV.ltB] at hx; exact .pix (hle _ _ (by simpa [z0u] using hx) h)
 | sl h h'=>simp only[SV.ltB] at hx; exact .sl (hle _ _ (by simpa [z0u] using hx) h) h'
 | sub h h'=>simp only[SV.ltB] at hx; exact .sub (hle _ _ (by simpa [z0u] using hx) h) h'
 | mp h=>simp only[SV.ltB] at hx; exact .mp (hle _ _ (by simpa [z0u] using hx) h)
 | yld h=>simp only[SV.ltB] at hx; exact .yld (hle _ _ (by simpa [z0u] using hx) h)
 | agg h1 _ ih=>simp only[SV.ltB] at hx; exact .agg h1 fun j x v hj hv=>ih j x v hj hv (a23 hx hj)
 | tup h1 _ ih=>simp only[SV.ltB] at hx; exact .tup h1 fun j x v hj hv=>ih j x v hj hv (a23 hx hj)
 | fn h1 _ ih=>simp only[SV.ltB] at hx; exact .fn h1 fun j x v hj hv=>ih j x v hj hv (a23 hx hj)
 | v x=>exact .v x
def j4 (S:Nat→Prop) (W:World):Col→Nat→Value→Prop
 | .int k g,j,v=>v=.int k (g j)
 | .bool g,j,v=>v=.bool (g j)
 | .rows len gs,j,v=>∃ A c,v=.slice A (len j) c∧len j≤c∧(0 < len j→∃ a,A=some a∧S a.block∧∀ i,i < len j→∀ k g,gs[k]?=some g→W.cell? (a.add (i * gs.length + k))=some (.int .i64 (g j i)))
 | .any,_,_=>True
theorem b2p {S:Nat→Prop} {W:World} (ρ:Env) {c:Col} {j:Nat} {v:Value} (h:j4 S W c j v):Den ρ (b53 c j) v:=by
 cases c <;> simp only[j4] at h
 ·subst h; exact .i _ _
 ·subst h; exact .b _
 ·exact .dead _
 ·exact .dead _
theorem s7 {S S':Nat→Prop} {W W':World} {c:Col} {j:Nat} {v:Value} (h:j4 S W c j v) (hS:∀ g,S g→S' g) (hW:∀ g,S g→W'.heap[g]?=W.heap[g]?):j4 S' W' c j v:=by
 cases c <;> simp only[j4] at h ⊢
 ·exact h
 ·exact h
 ·obtain⟨A,c,h1,hc,h2⟩:=h
  refine⟨A,c,h1,hc,fun h0=>?_⟩
  obtain⟨a,ha,hs,h3⟩:=h2 h0
  refine⟨a,ha,hS _ hs,fun i hi k g hg=>?_⟩
  rw[z2e (w:=W) (hW _ (by rw[block_add]; exact hs))]
  exact h3 i hi k g hg
theorem b2x (cols:List Col) (j k:Nat):(b2q cols j)[k]?=(cols[k]?).map (b53 · j):=by
 induction cols generalizing k with
 | nil=>simp[b2q]
 | cons c r ih=>cases k <;> simp[b2q,ih]
def a5f:Option IntKind→Int→Value
 | some k,v=>.int k v
 | none,v=>.bool (v != 0)
def KeyIs (k:IntKind) (n:Int) (v:Value):Prop:=match k with
 | .i8=>∃ a b,n=pk a b∧v=.agg #[.int .i64 a,.int .i64 b]
 | k=>v=.int k n
theorem c93 {a b:Int} (h:zz a=zz b):a=b:=by
 cases a <;> cases b <;> simp only[zz] at h
 ·have:(_:Nat)=_:=Nat.eq_of_mul_eq_mul_left (by decide:0 < 2) h
  rw[this]
 ·omega
 ·omega
 ·have:(_:Nat)=_:=Nat.eq_of_mul_eq_mul_left (by decide:0 < 2) (Nat.add_right_cancel h)
  rw[this]
theorem d38 {p q r s:Nat} (h:(p + q) * (p + q) + p=(r + s) * (r + s) + r):¬ p + q < r + s:=fun h1=>by
 have h2:=z2x (show p + q + 1≤r + s from h1) (show p + q + 1≤r + s from h1)
 have h3:(p + q + 1) * (p + q + 1)=(p + q) * (p + q) + (p + q) + (p + q) + 1:=by
  rw[Nat.add_mul,Nat.mul_add]; omega
 omega
theorem d3w {a b c d:Int} (h:pk a b=pk c d):a=c∧b=d:=by
 unfold pk at h
 have h:(zz a + zz b) * (zz a + zz b) + zz a=(zz c + zz d) * (zz c + zz d) + zz c:=by exact_mod_cast h
 have e:zz a + zz b=zz c + zz d:=by
  have h1:=d38 h
  have h2:=d38 h.symm
  omega
 rw[e] at h
 have e1:zz a=zz c:=by omega
 exact⟨c93 e1,c93 (by omega)⟩
theorem KeyIs.val {k:IntKind} {n:Int} {v v':Value} (h:KeyIs k n v) (h':KeyIs k n v'):v=v':=by
 cases k <;> simp only[KeyIs] at h h' <;> try exact h.trans h'.symm
 obtain⟨a,b,e,rfl⟩:=h
 obtain⟨c,d,e',rfl⟩:=h'
 obtain⟨rfl,rfl⟩:=d3w (e.symm.trans e')
 rfl
theorem KeyIs.num {k:IntKind} {n n':Int} {v:Value} (h:KeyIs k n v) (h':KeyIs k n' v):n=n':=by
 cases k <;> simp only[KeyIs] at h h'
 case i8 =>
  obtain⟨a,b,rfl,e⟩:=h
  obtain⟨c,d,rfl,e'⟩:=h'
  rw[e] at e'
  simp at e'
  rw[e'.1,e'.2]
 all_goals (rw[h] at h'; simpa using h')
def b28 (es:Array MapEntry) (clock:Nat) (k:IntKind) (k':Option IntKind) (f:Int→Option Int):Prop:=
 MapKept.Stamped es clock∧(∀ x∈es.toList,∃ n v,KeyIs k n x.key∧x.val=a5f k' v∧f n=some v)∧(∀ n v,f n=some v→∃ x∈es.toList,KeyIs k n x.key)
def a85 (es:Array MapEntry) (clock:Nat) (f:Int→Int→Bool):Prop:=
 MapKept.Stamped es clock∧(∀ x∈es.toList,∃ n m,x.key=.agg #[.int .i64 n,.int .i64 m]∧x.val=.bool true∧f n m=true)∧(∀ n m,f n m=true→∃ x∈es.toList,x.key=.agg #[.int .i64 n,.int .i64 m])
def d39 (es:Array MapEntry) (clock since:Nat) (seen:Array Nat) (c0:Nat) (left:Int→Int→Bool):Prop:=
 MapKept.Stamped es clock∧(∀ x∈es.toList,x.born < since)∧since≤c0∧since≤clock∧(∀ x∈es.toList,∃ n m,x.key=.agg #[.int .i64 n,.int .i64 m]∧x.val=.bool true∧left n m = !seen.contains x.born)∧(∀ n m,left n m=true→∃ x∈es.toList,x.key=.agg #[.int .i64 n,.int .i64 m])
def d6c (ρ:Env) (W:World) (r e':Nat) (gs:List (Nat→Nat→Int)) (len:Nat→Nat) (vs:List Value) (j:Nat):Prop:=
 ∃ B d us,vs[j]?=some (.slice B (len j) d)∧W.ownsRow 0 e' gs.length (.slice B (len j) d) (len j) us∧(∀ b,B=some b→ρ.X r b.block)∧∀ i,i < len j→∀ k g,gs[k]?=some g→us[i * gs.length + k]?=some (.int .i64 (g j i))
def BR (ρ:Env) (W:World) (r:Nat):MBlk→Prop
 | .cells cs=>∃ g t vs c,ρ r=some (some ⟨g,0,none⟩,c)∧¬ ρ.S g∧W.heap[g]?=some (.cells (List.toArray vs) t (0,0))∧DenL ρ cs vs
 | .old cs=>∃ a c,ρ r=some (some a,c)∧ρ.S a.block∧∀ j x,cs[j]?=some x→∃ v,W.cell? (a.add j)=some v∧Den ρ x v
 | .arr n cols=>∃ A c,ρ r=some (A,c)∧n≤c∧(0 < n→∃ a,A=some a∧ρ.S a.block∧∀ j,j < n→∀ k col,cols[k]?=some col→∃ v,W.cell? (a.add (j * cols.length + k))=some v∧j4 ρ.R W col j v)
 | .oarr e n cols=>∃ A c vs,ρ r=some (A,c)∧W.ownsRow 0 e cols.length (.slice A n c) n vs∧(∀ a,A=some a→¬ ρ.S a.block)∧0 < cols.length∧∀ j,j < n→∀ k col,cols[k]?=some col→∃ v,vs[j * cols.length + k]?=some v∧j4 ρ.R W col j v
 | .mapi k k' f=>∃ g es clock c,ρ r=some (some ⟨g,0,none⟩,c)∧¬ ρ.S g∧W.heap[g]?=some (.map es clock)∧b28 es clock k k' f
 | .mapp f=>∃ g es clock c,ρ r=some (some ⟨g,0,none⟩,c)∧¬ ρ.S g∧W.heap[g]?=some (.map es clock)∧a85 es clock f
 | .fmapp f=>∃ g es clock c,ρ r=some (some ⟨g,0,none⟩,c)∧ρ.S g∧W.heap[g]?=some (.map es clock)∧a85 es clock f
 | .iterp left cur=>∃ g b since seen c0 es clock c,ρ r=some (some ⟨g,0,none⟩,c)∧¬ ρ.S g∧W.heap[g]?=some (.mapIter (some b) since seen c0)∧ρ.S b∧W.heap[b]?=some (.map es clock)∧d39 es clock since seen c0 left ∧
   (∀ p,cur=some p→clock=c0∧∃ x∈es.toList,seen.back?=some x.born∧x.key=.agg #[.int .i64 p.1,.int .i64 p.2]∧x.val=.bool true)
 | .orows e e' n hole link len gs=>∃ A c vs,ρ r=some (A,c)∧W.ownsRow 0 e 1 (.slice A n c) n vs∧(∀ a,A=some a→¬ ρ.S a.block)∧0 < gs.length∧(∀ j,j < n→hole≠some j→d6c ρ W r e' gs len vs j) ∧
   (∀ j j' B l d B' l' d',j < n→j' < n→hole≠some j→hole≠some j'→vs[j]?=some (.slice (some B) l d)→vs[j']?=some (.slice (some B') l' d')→B.block=B'.block→j=j') ∧
   ∀ j q,hole=some j→link=some q→∃ B d,ρ q=some (B,d)∧vs[j]?=some (.slice B (len j) d)∧(0 < len j→B≠none)
 | .stk cs vs=>DenL ρ cs vs
 | .lup st us cd=>∃ g fn D c,ρ r=some (some ⟨g,0,none⟩,c)∧¬ ρ.S g∧W.heap[g]?=some (.loop (a3c st us cd fn D))
 | .gone=>True
def l7:MBlk→Bool
 | .cells _=>true
 | .oarr _ _ _=>true
 | .mapi _ _ _=>true
 | .mapp _=>true
 | .iterp _ _=>true
 | .orows _ _ _ _ _ _ _=>true
 | .lup _ _ _=>true
 | _=>false
structure Keeps (K:Nat→Prop) (w w':World):Prop where
 os:w'.os=w.os
 tape:w'.tape=w.tape
 output:w'.output=w.output
 size:w.heap.size≤w'.heap.size
 block:∀ k,K k→w'.heap[k]?=w.heap[k]?
theorem Keeps.refl (K:Nat→Prop) (w:World):Keeps K w w:=⟨rfl,rfl,rfl,z0q _,fun _ _=>rfl⟩
theorem Keeps.trans {K:Nat→Prop} {a b c:World} (h:Keeps K a b) (k:Keeps K b c):Keeps K a c:=
 ⟨k.os.trans h.os,k.tape.trans h.tape,k.output.trans h.output,Nat.le_trans h.size k.size,fun i hi=>(k.block i hi).trans (h.block i hi)⟩
theorem Keeps.of_below {K:Nat→Prop} {B:Nat} {a b:World} (h:Below B a b) (hK:∀ g,K g→g < B):Keeps K a b:=⟨h.os,h.tape,h.output,h.size,fun k hk=>h.block k (hK k hk)⟩
theorem Keeps.below {B:Nat} {a b:World} (h:Keeps (fun g=>g < B) a b):Below B a b:=⟨h.os,h.tape,h.output,h.size,fun k hk=>h.block k hk⟩
theorem Keeps.of_grown {K:Nat→Prop} {a b:World} {row:Option Nat} (h:a.grownBy b row) (hK:∀ g,K g→g < a.heap.size∧row≠some g):Keeps K a b:=
 ⟨h.os,h.tape,h.output,h.size,fun k hk=>h.block k (hK k hk).1 (fun e=>(hK k hk).2 e.symm)⟩
structure Lim where
 keep:Nat→Prop
 row:Nat→Prop
structure MR (K:Lim) (w0 W:World) (ρ:Env) (m:List MBlk):Prop where
 sub:∀ g,K.keep g→ρ.S g
 rows:∀ g,ρ.R g→K.row g∨¬ K.keep g
 hS:∀ g,ρ.S g→g < W.heap.size
 below:Keeps K.keep w0 W
 blk:∀ r k,m[r]?=some k→ρ r≠none→BR ρ W r k
 dom:∀ r,ρ r≠none→r < m.length
 xlt:∀ r g,ρ.X r g→r < m.length∧¬ ρ.S g∧g < W.heap.size
 xsep:∀ r s g,ρ.X r g→ρ.X s g→r=s
 xown:∀ r g s k a c,ρ.X r g→m[s]?=some k→l7 k=true→ρ s=some (some a,c)→a.block≠g
 sep:∀ r s k l a b c d,m[r]?=some k→m[s]?=some l→l7 k=true→l7 l=true→ρ r=some (some a,c)→ρ s=some (some b,d)→a.block=b.block→r=s
theorem a54 {w w':World} {B e sz n:Nat} {v:Value} {xs:List Value} (h:w.ownsRow B e sz v n xs) (hb:Below w.heap.size w w'):w'.ownsRow B e sz v n xs:=by
 obtain⟨h1,h2⟩:=h
 refine⟨h1,h2.imp id ?_⟩
 rintro ⟨g,cap,cur,rfl,hg,hh,r⟩
 have hlt:g < w.heap.size:=(z0j.1 hh).1
 exact⟨g,cap,cur,rfl,hg,(hb.block g hlt).trans hh,r⟩
theorem BR.later {ρ:Env} {w w':World} {r:Nat} {k:MBlk} (hS:∀ g,ρ.S g→g < w.heap.size) (h:BR ρ w r k) (hb:Below w.heap.size w w'):BR ρ w' r k:=by
 have hc:∀ {col:Col} {j:Nat} {v:Value},j4 ρ.R w col j v→j4 ρ.R w' col j v:=fun h=>s7 h (fun _ h=>h) (fun g hg=>hb.block g (hS g hg.1))
 cases k with
 | cells cs =>
  obtain⟨g,t,vs,c,h1,h2,h3,h4⟩:=h
  exact⟨g,t,vs,c,h1,h2,(hb.block g (z0j.1 h3).1).trans h3,h4⟩
 | old cs =>
  obtain⟨a,c,h1,h2,h3⟩:=h
  refine⟨a,c,h1,h2,fun j x hx=>?_⟩
  obtain⟨v,hv,hd⟩:=h3 j x hx
  exact⟨v,(hb.cell (p:=a.add j) (by rw[block_add]; exact hS _ h2)).trans hv,hd⟩
 | arr n cols =>
  obtain⟨A,c,h1,hn0,h2⟩:=h
  refine⟨A,c,h1,hn0,fun hn=>?_⟩
  obtain⟨a,ha,hlt,h3⟩:=h2 hn
  refine⟨a,ha,hlt,fun j hj k col hk=>?_⟩
  obtain⟨v,hv,hd⟩:=h3 j hj k col hk
  exact⟨v,(hb.cell (p:=a.add _) (by rw[block_add]; exact hS _ hlt)).trans hv,hc hd⟩
 | oarr e n cols =>
  obtain⟨A,c,vs,h1,h2,h3,h4,h5⟩:=h
  refine⟨A,c,vs,h1,a54 h2 hb,h3,h4,fun j hj k col hk=>?_⟩
  obtain⟨v,hv,hd⟩:=h5 j hj k col hk
  exact⟨v,hv,hc hd⟩
 | mapi k k' f =>
  obtain⟨g,es,clock,c,h1,h2,h3,h4⟩:=h
  exact⟨g,es,clock,c,h1,h2,(hb.block g (z0j.1 h3).1).trans h3,h4⟩
 | mapp f =>
  obtain⟨g,es,clock,c,h1,h2,h3,h4⟩:=h
  exact⟨g,es,clock,c,h1,h2,(hb.block g (z0j.1 h3).1).trans h3,h4⟩
 | fmapp f =>
  obtain⟨g,es,clock,c,h1,h2,h3,h4⟩:=h
  exact⟨g,es,clock,c,h1,h2,(hb.block g (z0j.1 h3).1).trans h3,h4⟩
 | iterp f cur =>
  obtain⟨g,b,since,seen,c0,es,clock,c,h1,h2,h3,h4,h5,h6⟩:=h
  exact⟨g,b,since,seen,c0,es,clock,c,h1,h2,(hb.block g (z0j.1 h3).1).trans h3,h4,(hb.block b (z0j.1 h5).1).trans h5,h6⟩
 | orows e e' n hole link len gs =>
  obtain⟨A,c,vs,h1,h2,h3,h4,h5,h6⟩:=h
  refine⟨A,c,vs,h1,a54 h2 hb,h3,h4,fun j hj hh=>?_,h6⟩
  obtain⟨B,d,us,e1,e2,e3,e4⟩:=h5 j hj hh
  exact⟨B,d,us,e1,a54 e2 hb,e3,e4⟩
 | stk cs vs=>exact h
 | lup st us cd =>
  obtain⟨g,fn,D,c,h1,h2,h3⟩:=h
  exact⟨g,fn,D,c,h1,h2,(hb.block g (z0j.1 h3).1).trans h3⟩
 | gone=>trivial
theorem t9 {ρ:Env} {W:World} {r:Nat} {k:MBlk} {a:Addr} {c:Nat} (h:BR ρ W r k) (ho:l7 k=true) (hr:ρ r=some (some a,c)):¬ ρ.S a.block∧a.block < W.heap.size:=by
 cases k <;> simp[l7] at ho
 ·obtain⟨g,t,vs,c',h1,h2,h3,_⟩:=h
  rw[hr] at h1
  simp only[z0a,z0g] at h1
  obtain⟨rfl,_⟩:=h1
  exact⟨h2,(z0j.1 h3).1⟩
 ·obtain⟨A,c',vs,h1,⟨_,h2⟩,h3,_⟩:=h
  rw[hr] at h1
  simp only[z0a,z0g] at h1
  obtain⟨rfl,_⟩:=h1
  rcases h2 with⟨h2,_⟩ | ⟨g,cap,cur,h2,hg,hh,_⟩
  ·cases h2
  ·injection h2 with h2
   injection h2 with h2
   subst h2
   exact⟨h3 _ rfl,(z0j.1 hh).1⟩
 ·obtain⟨g,es,clock,c',h1,h2,h3,_⟩:=h
  rw[hr] at h1
  simp only[z0a,z0g] at h1
  obtain⟨rfl,_⟩:=h1
  exact⟨h2,(z0j.1 h3).1⟩
 ·obtain⟨g,es,clock,c',h1,h2,h3,_⟩:=h
  rw[hr] at h1
  simp only[z0a,z0g] at h1
  obtain⟨rfl,_⟩:=h1
  exact⟨h2,(z0j.1 h3).1⟩
 ·obtain⟨g,b,since,seen,c0,es,clock,c',h1,h2,h3,_⟩:=h
  rw[hr] at h1
  simp only[z0a,z0g] at h1
  obtain⟨rfl,_⟩:=h1
  exact⟨h2,(z0j.1 h3).1⟩
 ·obtain⟨A,c',vs,h1,⟨_,h2⟩,h3,_⟩:=h
  rw[hr] at h1
  simp only[z0a,z0g] at h1
  obtain⟨rfl,_⟩:=h1
  rcases h2 with⟨h2,_⟩ | ⟨g,cap,cur,h2,hg,hh,_⟩
  ·cases h2
  ·injection h2 with h2
   injection h2 with h2
   subst h2
   exact⟨h3 _ rfl,(z0j.1 hh).1⟩
 ·obtain⟨g,fn,D,c',h1,h2,h3⟩:=h
  rw[hr] at h1
  simp only[z0a,z0g] at h1
  obtain⟨rfl,_⟩:=h1
  exact⟨h2,(z0j.1 h3).1⟩
theorem BR.mono {ρ σ:Env} {w:World} {r:Nat} {k:MBlk} (h:BR ρ w r k) (hle:∀ r y,ρ r=some y→σ r=some y) (hS:∀ g,ρ.S g→σ.S g) (hT:∀ g,ρ.T g→σ.T g) (hno:∀ a c,l7 k=true→ρ r=some (some a,c)→¬ σ.S a.block) (hX:∀ g,ρ.X r g→σ.X r g):BR σ w r k:=by
 have hc:∀ {col:Col} {j:Nat} {v:Value},j4 ρ.R w col j v→j4 σ.R w col j v:=fun h=>s7 h (fun g hg=>⟨hS g hg.1,hT g hg.2⟩) (fun _ _=>rfl)
 cases k with
 | cells cs =>
  obtain⟨g,t,vs,c,h1,h2,h3,h4⟩:=h
  exact⟨g,t,vs,c,hle _ _ h1,hno _ _ rfl h1,h3,h4.mono hle⟩
 | old cs =>
  obtain⟨a,c,h1,h2,h3⟩:=h
  refine⟨a,c,hle _ _ h1,hS _ h2,fun j x hx=>?_⟩
  obtain⟨v,hv,hd⟩:=h3 j x hx
  exact⟨v,hv,hd.mono hle⟩
 | arr n cols =>
  obtain⟨A,c,h1,hn0,h2⟩:=h
  refine⟨A,c,hle _ _ h1,hn0,fun hn=>?_⟩
  obtain⟨a,ha,hlt,h3⟩:=h2 hn
  refine⟨a,ha,hS _ hlt,fun j hj k col hk=>?_⟩
  obtain⟨v,hv,hd⟩:=h3 j hj k col hk
  exact⟨v,hv,hc hd⟩
 | oarr e n cols =>
  obtain⟨A,c,vs,h1,h2,h3,h4,h5⟩:=h
  refine⟨A,c,vs,hle _ _ h1,h2,fun a ha=>hno a c rfl (by rw[h1,ha]),h4,fun j hj k col hk=>?_⟩
  obtain⟨v,hv,hd⟩:=h5 j hj k col hk
  exact⟨v,hv,hc hd⟩
 | mapi k k' f =>
  obtain⟨g,es,clock,c,h1,h2,h3,h4⟩:=h
  exact⟨g,es,clock,c,hle _ _ h1,hno _ _ rfl h1,h3,h4⟩
 | mapp f =>
  obtain⟨g,es,clock,c,h1,h2,h3,h4⟩:=h
  exact⟨g,es,clock,c,hle _ _ h1,hno _ _ rfl h1,h3,h4⟩
 | fmapp f =>
  obtain⟨g,es,clock,c,h1,h2,h3,h4⟩:=h
  exact⟨g,es,clock,c,hle _ _ h1,hS _ h2,h3,h4⟩
 | iterp f cur =>
  obtain⟨g,b,since,seen,c0,es,clock,c,h1,h2,h3,h4,h5,h6⟩:=h
  exact⟨g,b,since,seen,c0,es,clock,c,hle _ _ h1,hno _ _ rfl h1,h3,hS _ h4,h5,h6⟩
 | orows e e' n hole link len gs =>
  obtain⟨A,c,vs,h1,h2,h3,h4,h5,h6,h7⟩:=h
  refine⟨A,c,vs,hle _ _ h1,h2,fun a ha=>hno a c rfl (by rw[h1,ha]),h4,fun j hj hh=>?_,h6,fun j q hj hq=>by obtain⟨B,d,e1,e2⟩:=h7 j q hj hq; exact⟨B,d,hle _ _ e1,e2⟩⟩
  obtain⟨B,d,us,e1,e2,e3,e4⟩:=h5 j hj hh
  exact⟨B,d,us,e1,e2,fun b hb=>hX _ (e3 b hb),e4⟩
 | stk cs vs=>exact DenL.mono h hle
 | lup st us cd =>
  obtain⟨g,fn,D,c,h1,h2,h3⟩:=h
  exact⟨g,fn,D,c,hle _ _ h1,hno _ _ rfl h1,h3⟩
 | gone=>trivial
structure News (σ:Env) (W W':World) (base:Nat) (new:List MBlk):Prop where
 blk:∀ k b,new[k]?=some b→σ (base + k)≠none→BR σ W' (base + k) b
 fresh:∀ k b a c,new[k]?=some b→l7 b=true→σ (base + k)=some (some a,c)→W.heap.size≤a.block
 sep:∀ k l b d a c x y,new[k]?=some b→new[l]?=some d→l7 b=true→l7 d=true→σ (base + k)=some (some a,x)→σ (base + l)=some (some c,y)→a.block=c.block→k=l
theorem News.nil (σ:Env) (W W':World) (base:Nat):News σ W W' base []:=⟨fun k b hk=>by simp at hk,fun k b a c hk=>by simp at hk,fun k l b d a c x y hk=>by simp at hk⟩
structure SGrow (ρ σ:Env) (W W':World):Prop where
 le:∀ g,ρ.S g→σ.S g
 new:∀ g,σ.S g→ρ.S g∨(W.heap.size≤g∧g < W'.heap.size)
 leT:∀ g,ρ.T g→σ.T g
 newR:∀ g,σ.R g→ρ.R g∨W.heap.size≤g
 eqX:σ.X=ρ.X
theorem SGrow.refl (ρ:Env) (W W':World):SGrow ρ ρ W W':=⟨fun _ h=>h,fun _ h=>.inl h,fun _ h=>h,fun _ h=>.inl h,rfl⟩
def StepPost (ρ:Env) (W:World) (base:Nat) (sv:SV) (new:List MBlk) (v:Value) (W':World):Prop:=
 Below W.heap.size W W'∧∃ σ:Env,(∀ r,r < base∨base + new.length≤r→σ r=ρ r)∧SGrow ρ σ W W'∧Den σ sv v∧News σ W W' base new
theorem MR.grow {K:Lim} {w0 W W':World} {ρ σ:Env} {m new:List MBlk} (h:MR K w0 W ρ m) (hb:Below W.heap.size W W') (hσ:∀ r,r < m.length∨m.length + new.length≤r→σ r=ρ r)
  (hg:SGrow ρ σ W W') (hn:News σ W W' m.length new):MR K w0 W' σ (m ++ new):=by
 have hle:∀ r y,ρ r=some y→σ r=some y:=fun r y hr=>by
  rw[hσ r (.inl (h.dom r (by rw[hr]; simp)))]; exact hr
 have lo:∀ {r k},r < m.length→(m ++ new)[r]?=some k→m[r]?=some k:=fun {r k} hr hk=>by rwa [z0t hr] at hk
 have hi:∀ {r k},¬ r < m.length→(m ++ new)[r]?=some k→new[r - m.length]?=some k:=fun {r k} hr hk=>by rwa [z1c (by omega)] at hk
 refine⟨fun g hg'=>hg.1 g (h.sub g hg'),fun g hg'=>?_,fun g hg'=>?_,h.below.trans (.of_below hb (fun g hk=>h.hS g (h.sub g hk))),fun r k hk hr=>?_,fun r hr=>?_,fun r g hx=>?_,fun r s g h1 h2=>?_,fun r g s k a c hx hk ho hsa=>?_,?_⟩
 ·rcases hg.newR g hg' with h1 | h1
  ·exact h.rows g h1
  ·exact .inr fun hk=>by have:=h.hS g (h.sub g hk); omega
 ·rcases hg.2 g hg' with h1 | h1
  ·have:=h.hS g h1; have:=hb.size; omega
  ·exact h1.2
 ·by_cases hlt:r < m.length
  ·rw[hσ r (.inl hlt)] at hr
   have h0:=h.blk r k (lo hlt hk) hr
   refine(h0.later h.hS hb).mono hle hg.1 hg.leT (fun a c ho hra hs=>?_) (fun g hx=>by rw[hg.eqX]; exact hx)
   have:=t9 h0 ho hra
   rcases hg.2 _ hs with h1 | h1
   ·exact this.1 h1
   ·omega
  ·have:=hn.blk (r - m.length) k (hi hlt hk)
   rw[show m.length + (r - m.length)=r by omega] at this
   exact this hr
 ·by_cases hlt:r < m.length + new.length
  ·simpa using hlt
  ·rw[hσ r (.inr (by omega))] at hr
   have:=h.dom r hr
   omega
 ·rw[hg.eqX] at hx
  obtain⟨h1,h2,h3⟩:=h.xlt r g hx
  refine⟨by simp; omega,fun hs=>?_,z2c h3 hb.size⟩
  rcases hg.2 g hs with e | e
  ·exact h2 e
  ·omega
 ·rw[hg.eqX] at h1 h2
  exact h.xsep r s g h1 h2
 ·rw[hg.eqX] at hx
  obtain⟨h1,h2,h3⟩:=h.xlt r g hx
  by_cases hlt:s < m.length
  ·exact h.xown r g s k a c hx (lo hlt hk) ho (by rw[← hσ s (.inl hlt)]; exact hsa)
  ·have:=hn.fresh (s - m.length) k a c (hi hlt hk) ho (by rw[show m.length + (s - m.length)=s by omega]; exact hsa)
   omega
 ·intro r s k l a b c d hk hl hok hol hra hsb hab
  by_cases hr:r < m.length <;> by_cases hs:s < m.length
  ·exact h.sep r s k l a b c d (lo hr hk) (lo hs hl) hok hol (by rw[← hσ r (.inl hr)]; exact hra) (by rw[← hσ s (.inl hs)]; exact hsb) hab
  ·have e1:=t9 (h.blk r k (lo hr hk) (by rw[← hσ r (.inl hr),hra]; simp)) hok (by rw[← hσ r (.inl hr)]; exact hra)
   have e2:=hn.fresh (s - m.length) l b d (hi hs hl) hol (by rw[show m.length + (s - m.length)=s by omega]; exact hsb)
   omega
  ·have e1:=t9 (h.blk s l (lo hs hl) (by rw[← hσ s (.inl hs),hsb]; simp)) hol (by rw[← hσ s (.inl hs)]; exact hsb)
   have e2:=hn.fresh (r - m.length) k a c (hi hr hk) hok (by rw[show m.length + (r - m.length)=r by omega]; exact hra)
   omega
  ·have:=hn.sep (r - m.length) (s - m.length) k l a b c d (hi hr hk) (hi hs hl) hok hol (by rw[show m.length + (r - m.length)=r by omega]; exact hra) (by rw[show m.length + (s - m.length)=s by omega]; exact hsb) hab
   omega
end Go.Proofs.YtaeeaniofljmnaaGreatDoor.Sx

/-
  A part of the proof (Yx16).
-/
import Derived.Test.YtaeeaniofljmnaaGreatDoorYx14
namespace Go.Proofs.YtaeeaniofljmnaaGreatDoor.Sx
set_option linter.unusedSimpArgs false
set_option linter.unusedVariables false
open Go Go.RowKit Go.ChangeShapes Go.WideShapes
section
variable {H:Type} {enc:TypeId × Value→H} {P:Program} {w:World} {base:Nat} {sp:Nat→Bool} {held:Bool}
theorem c3z {α β:Type} {f:α→Option β}:∀ {l:List α} {ys:List β},l.mapM f=some ys→ys.length=l.length∧∀(i:Nat) (x:α),l[i]?=some x→f x=ys[i]?:=by
 intro l
 induction l with
 | nil=>intro ys h; simp at h; subst h; simp
 | cons a r ih =>
  intro ys h
  simp only[List.mapM_cons,z3r,z3b,z3e,z0a] at h
  obtain⟨y,hy,zs,hz,rfl⟩:=h
  obtain⟨h1,h2⟩:=ih hz
  refine⟨by simp[h1],fun i x hx=>?_⟩
  cases i with
  | zero=>simp at hx; subst hx; simpa using hy
  | succ i=>simpa using h2 i x (by simpa using hx)
theorem c07 {a:Addr} {n:Nat} {cs:List Value} (h:w.cells? base a n=some cs):∀ k,k < n→w.cell? (a.add k)=cs[k]?:=by
 unfold World.cells? at h
 split at h
 ·intro k hk
  exact(c3z h).2 k k (by simp[hk])
 ·cases h
theorem c08:∀ {ks:List (Option IntKind)} {cs:List Value},a2e ks cs→∀(k:Nat) (kd:Option IntKind),ks[k]?=some kd→∃ u,cs[k]?=some u∧b7v kd u:=by
 intro ks
 induction ks with
 | nil=>intro cs _ k kd h; simp at h
 | cons x r ih =>
  intro cs h k kd hk
  cases cs with
  | nil=>simp[a2e] at h
  | cons v vs =>
   cases k with
   | zero=>simp at hk; subst hk; exact⟨v,rfl,h.1⟩
   | succ k=>simpa using ih h.2 k kd (by simpa using hk)
end
open Go Go.RowKit
def c4q (f:Nat→Nat):MBlk→MBlk
 | .cells cs=>.cells (a2k f cs)
 | .old cs=>.old (a2k f cs)
 | k=>k
def ixF (is:List Nat) (i:Nat):Nat:=match nth is i with
 | some r=>r
 | none=>0
def b5q (i:Nat):List MBlk→Bool
 | []=>false
 | .cells cs :: r=>a3t cs [i] || b5q i r
 | _ :: r=>b5q i r
def b9q {α:Type}:Nat→List α→List α
 | 0,_=>[]
 | _,[]=>[]
 | n + 1,x :: r=>x :: b9q n r
def b1o (vs0:List SV) (m0:List MBlk):Nat→Bool
 | 0=>true
 | i + 1=>(a3t vs0 [i] || b5q i (b9q i m0)) && b1o vs0 m0 i
def wOk:List MBlk→Bool
 | []=>true
 | .orows _ _ _ _ _ _ _ :: _=>false
 | .iterp _ _ :: _=>false
 | .stk _ _ :: _=>false
 | .lup _ _ _ :: _=>false
 | _ :: r=>wOk r
def a55 (x:Nat→Option Addr × Nat) (kl:List Nat):Nat→List (Nat × (Option Addr × Nat))
 | 0=>[]
 | i + 1=>bif y4 i kl then a55 x kl i else(i,x i) :: a55 x kl i
def a7u (ups:List (Nat × MBlk)):Nat→Nat→List MBlk
 | _,0=>[]
 | i,n + 1=>(match g7 ups i with | some k=>k | none=>.gone) :: a7u ups (i + 1) n
def c1w (f:Nat→Nat):List (Nat × MBlk)→List (Nat × MBlk)
 | []=>[]
 | (i,k) :: r=>(f i,c4q f k) :: c1w f r
def a9a (f:Nat→Nat):List Nat→List Nat
 | []=>[]
 | x :: r=>f x :: a9a f r
def b6c (ups:List (Nat × MBlk)) (kl:List Nat):Nat→List MBlk→Bool
 | _,[]=>true
 | i,k :: r=>(bif l7 k then(match g7 ups i with | some _=>true | none=>false) else(match g7 ups i with | some _=>false | none=>!(y4 i kl))) && b6c ups kl (i + 1) r
def b61 (ups:List (Nat × MBlk)) (n:Nat):List (Nat × MBlk)→Bool
 | []=>true
 | (i,k) :: r=>Nat.blt i n && l7 k && (match g7 r i with | some _=>false | none=>true) && b61 ups n r
def a74:List Nat→Bool
 | []=>true
 | x :: r=>!(y4 x r) && a74 r
def tB (is:List Nat) (kl:List Nat) (ups:List (Nat × MBlk)) (sv0:SV) (pre:List Prop):BRes:=⟨pre,u9 (ixF is) sv0,a9a (ixF is) kl,c1w (ixF is) ups,[]⟩
def c2d (n:Nat):List Nat→Bool
 | []=>true
 | x :: r=>Nat.blt x n && c2d n r
theorem c3y {n:Nat} {l:List Nat} (h:c2d n l=true):∀ i∈l,i < n:=by
 induction l with
 | nil=>intro i hi; cases hi
 | cons x r ih =>
  intro i hi
  simp only[c2d,z0d,z0u] at h
  rcases z0s.1 hi with rfl | hi
  ·exact h.1
  ·exact ih h.2 i hi
theorem c0v {l:List Nat}:a74 l=true↔l.Nodup:=by
 induction l with
 | nil=>simp[a74]
 | cons x r ih =>
  simp only[a74,z0d,z0x,z3q,ih]
  constructor
  ·rintro ⟨h1,h2⟩; exact⟨fun h=>(by rw[a0s.2 h] at h1; cases h1),h2⟩
  ·rintro ⟨h1,h2⟩; exact⟨z0z.2 fun h=>h1 (a0s.1 h),h2⟩
theorem b3e {f:Nat→Nat} {l:List Nat} {r:Nat}:r∈a9a f l↔∃ i∈l,f i=r:=by
 induction l with
 | nil=>simp[a9a]
 | cons x l ih=>simp[a9a,ih,eq_comm]
theorem b89 {is:List Nat} {i:Nat} (h:i < is.length):is[i]?=some (ixF is i):=by
 unfold ixF
 rw[t0,z0i h]
theorem c9j {is:List Nat} (hn:is.Nodup) {i j:Nat} (hi:i < is.length) (hj:j < is.length) (h:ixF is i=ixF is j):i=j:=by
 have h1:=b89 hi
 have h2:=b89 hj
 rw[h] at h1
 exact(List.getElem?_inj hi hn).1 (h1.trans h2.symm)
theorem c8k {α:Type} (n:Nat) (l:List α):b9q n l=l.take n:=by
 induction n generalizing l with
 | zero=>simp[b9q]
 | succ n ih=>cases l <;> simp[b9q,ih]
theorem c4o {ρ:Env} {x:SV} {v:Value} {i:Nat} (h:Den ρ x v) (hr:x.refs [i]=true):ρ i≠none:=by
 have nm:∀ {r:Nat},y4 r [i]=true→r=i:=fun h=>by simpa using a0s.1 h
 have key:∀(xs:List SV) (vs:List Value),vs.length=xs.length→a3t xs [i]=true→∃(j:Nat) (y:SV) (u:Value),xs[j]?=some y∧vs[j]?=some u∧y.refs [i]=true:=by
  intro xs
  induction xs with
  | nil=>intro vs _ h; simp[a3t] at h
  | cons y r ih =>
   intro vs hl h
   cases vs with
   | nil=>simp at hl
   | cons u vs =>
    simp only[a3t,z1r] at h
    rcases h with h | h
    ·exact⟨0,y,u,rfl,rfl,h⟩
    ·obtain⟨j,y',u',h1,h2,h3⟩:=ih vs (by simpa using hl) h
     exact⟨j + 1,y',u',by simpa using h1,by simpa using h2,h3⟩
 induction h with
 | ptr h=>simp only[SV.refs] at hr; rw[← nm hr,h]; simp
 | pix h=>simp only[SV.refs] at hr; rw[← nm hr,h]; simp
 | sl h _=>simp only[SV.refs] at hr; rw[← nm hr,h]; simp
 | sub h _=>simp only[SV.refs] at hr; rw[← nm hr,h]; simp
 | mp h=>simp only[SV.refs] at hr; rw[← nm hr,h]; simp
 | yld h=>simp only[SV.refs] at hr; rw[← nm hr,h]; simp
 | agg h1 _ ih=>simp only[SV.refs] at hr; obtain⟨j,y,u,e1,e2,e3⟩:=key _ _ h1 hr; exact ih j y u e1 e2 e3
 | tup h1 _ ih=>simp only[SV.refs] at hr; obtain⟨j,y,u,e1,e2,e3⟩:=key _ _ h1 hr; exact ih j y u e1 e2 e3
 | fn h1 _ ih=>simp only[SV.refs] at hr; obtain⟨j,y,u,e1,e2,e3⟩:=key _ _ h1 hr; exact ih j y u e1 e2 e3
 | _=>simp[SV.refs] at hr
theorem b3o {ρ:Env} {i:Nat}:∀ {xs:List SV} {vs:List Value},DenL ρ xs vs→a3t xs [i]=true→ρ i≠none:=by
 intro xs
 induction xs with
 | nil=>intro vs _ h; simp[a3t] at h
 | cons y r ih =>
  intro vs hd h
  obtain⟨u,us,rfl,h1,h2⟩:=hd.inv
  simp only[a3t,z1r] at h
  rcases h with h | h
  ·exact c4o h1 h
  ·exact ih h2 h
theorem c4n {i:Nat} {m:List MBlk} (h:b5q i m=true):∃(j:Nat) (cs:List SV),m[j]?=some (MBlk.cells cs)∧a3t cs [i]=true:=by
 induction m with
 | nil=>simp[b5q] at h
 | cons k r ih =>
  cases k with
  | cells cs =>
   simp only[b5q,z1r] at h
   rcases h with h | h
   ·exact⟨0,cs,rfl,h⟩
   ·obtain⟨j,cs',h1,h2⟩:=ih h
    exact⟨j + 1,cs',by simpa using h1,h2⟩
  | _ =>
   obtain⟨j,cs',h1,h2⟩:=ih h
   exact⟨j + 1,cs',by simpa using h1,h2⟩
theorem b66 {ρ:Env} {W:World} {vs0:List SV} {xs:List Value} {m0:List MBlk} (hd:DenL ρ vs0 xs) (hb:∀ i k,m0[i]?=some k→ρ i≠none→BR ρ W i k):∀ n,b1o vs0 m0 n=true→∀ i,i < n→ρ i≠none:=by
 intro n
 induction n with
 | zero=>intro _ i hi; omega
 | succ n ih =>
  intro h i hi
  simp only[b1o,z0d,z1r] at h
  by_cases e:i=n
  ·subst e
   rcases h.1 with h1 | h1
   ·exact b3o hd h1
   ·obtain⟨j,cs,hj,hr⟩:=c4n h1
    rw[c8k,z1u] at hj
    split at hj
    ·rename_i hlt
     obtain⟨g,t,vs,c,_,_,_,h4⟩:=hb j _ hj (ih h.2 j hlt)
     exact b3o h4 hr
    ·cases hj
  ·exact ih h.2 i (by omega)
mutual
theorem b3q {f:Nat→Nat} {n:Nat} {ρ σ:Env} (hs:∀ i y,i < n→ρ i=some y→σ (f i)=some y):∀(x:SV) (v:Value),x.ltB n=true→Den ρ x v→Den σ (u9 f x) v
 | .tt,v,_,h=>by simp only[u9]; rw[h.tt_inv]; exact .tt
 | .ff,v,_,h=>by simp only[u9]; rw[h.ff_inv]; exact .ff
 | .nilsl,v,_,h=>by simp only[u9]; cases h; exact .nilsl
 | .nilptr,v,_,h=>by simp only[u9]; cases h; exact .nilptr
 | .nilmap,v,_,h=>by simp only[u9]; cases h; exact .nilmap
 | .dead,v,_,_=>.dead v
 | .b x,v,_,h=>by simp only[u9]; rw[h.b_inv]; exact .b _
 | .i k n,v,_,h=>by simp only[u9]; rw[h.i_inv]; exact .i _ _
 | .ptr r o,v,hl,h=>by simp only[u9,SV.ltB,z0u] at hl ⊢; cases h with | ptr h=>exact .ptr (hs _ _ hl h)
 | .pix r sz ix o,v,hl,h=>by simp only[u9,SV.ltB,z0u] at hl ⊢; cases h with | pix h=>exact .pix (hs _ _ hl h)
 | .sl r k,v,hl,h=>by simp only[u9,SV.ltB,z0u] at hl ⊢; cases h with | sl h h'=>exact .sl (hs _ _ hl h) h'
 | .sub r sz lo k,v,hl,h=>by simp only[u9,SV.ltB,z0u] at hl ⊢; cases h with | sub h h'=>exact .sub (hs _ _ hl h) h'
 | .mp r,v,hl,h=>by simp only[u9,SV.ltB,z0u] at hl ⊢; cases h with | mp h=>exact .mp (hs _ _ hl h)
 | .yld r,v,hl,h=>by simp only[u9,SV.ltB,z0u] at hl ⊢; cases h with | yld h=>exact .yld (hs _ _ hl h)
 | .agg xs,v,hl,h=>by
  simp only[u9,SV.ltB] at hl ⊢
  obtain⟨vs,rfl,hv⟩:=h.agg_inv
  have:=a5m hs xs vs hl hv
  exact .agg this.1 this.2
 | .tup xs,v,hl,h=>by
  simp only[u9,SV.ltB] at hl ⊢
  obtain⟨vs,rfl,hv⟩:=h.tup_inv
  have:=a5m hs xs vs hl hv
  exact .tup this.1 this.2
 | .fn g xs,v,hl,h=>by
  simp only[u9,SV.ltB] at hl ⊢
  cases h with
  | fn h1 h2 =>
   have:=a5m hs xs _ hl ⟨h1,h2⟩
   exact .fn this.1 this.2
 | .v x,v,_,h=>by simp only[u9]; cases h; exact .v _
theorem a5m {f:Nat→Nat} {n:Nat} {ρ σ:Env} (hs:∀ i y,i < n→ρ i=some y→σ (f i)=some y):∀(xs:List SV) (vs:List Value),ltL xs n=true→DenL ρ xs vs→DenL σ (a2k f xs) vs
 | [],vs,_,h=>by simp only[a2k]; rw[h.inv_nil]; exact DenL.nil _
 | x :: xs,vs,hl,h=>by
  simp only[a2k]
  simp only[ltL,z0d] at hl
  obtain⟨w,ws,rfl,h1,h2⟩:=h.inv
  exact DenL.cons (b3q hs x w hl.1 h1) (a5m hs xs ws hl.2 h2)
end
theorem BR.world {ρ:Env} {W W':World} {r:Nat} {k:MBlk} (h:BR ρ W r k) (hS:∀ g,ρ.S g→W'.heap[g]?=W.heap[g]?) (ho:∀ a c,l7 k=true→ρ r=some (some a,c)→W'.heap[a.block]?=W.heap[a.block]?) (hX:∀ g,ρ.X r g→W'.heap[g]?=W.heap[g]?):BR ρ W' r k:=by
 have hc:∀ {col:Col} {j:Nat} {v:Value},j4 ρ.R W col j v→j4 ρ.R W' col j v:=fun h=>s7 h (fun _ h=>h) (fun g hg=>hS g hg.1)
 have own:∀ {e sz n:Nat} {A:Option Addr} {c:Nat} {l:Nat} {vs:List Value},W.ownsRow 0 e sz (.slice A l c) n vs→(∀ a,A=some a→W'.heap[a.block]?=W.heap[a.block]?)→W'.ownsRow 0 e sz (.slice A l c) n vs:=fun {e sz n A c l vs} h1 h2=>by
  obtain⟨q1,q2⟩:=h1
  refine⟨q1,q2.imp id ?_⟩
  rintro ⟨g,cap,cur,hv,hg,hh,r⟩
  simp only[z0y] at hv
  exact⟨g,cap,cur,by simp[hv],hg,(h2 _ hv.1).trans hh,r⟩
 cases k with
 | cells cs =>
  obtain⟨g,t,vs,c,h1,h2,h3,h4⟩:=h
  exact⟨g,t,vs,c,h1,h2,(ho _ _ rfl h1).trans h3,h4⟩
 | old cs =>
  obtain⟨a,c,h1,h2,h3⟩:=h
  refine⟨a,c,h1,h2,fun j x hx=>?_⟩
  obtain⟨v,hv,hd⟩:=h3 j x hx
  exact⟨v,(z2e (hS _ (by rw[block_add]; exact h2))).trans hv,hd⟩
 | arr n cols =>
  obtain⟨A,c,h1,hn0,h2⟩:=h
  refine⟨A,c,h1,hn0,fun hn=>?_⟩
  obtain⟨a,ha,hlt,h3⟩:=h2 hn
  refine⟨a,ha,hlt,fun j hj k col hcol=>?_⟩
  obtain⟨v,hv,hd⟩:=h3 j hj k col hcol
  exact⟨v,(z2e (hS _ (by rw[block_add]; exact hlt))).trans hv,hc hd⟩
 | oarr e n cols =>
  obtain⟨A,c,vs,h1,h2,h3,h4,h5⟩:=h
  refine⟨A,c,vs,h1,own h2 (fun a ha=>ho a c rfl (by rw[h1,ha])),h3,h4,fun j hj k col hcol=>?_⟩
  obtain⟨v,hv,hd⟩:=h5 j hj k col hcol
  exact⟨v,hv,hc hd⟩
 | mapi k k' f =>
  obtain⟨g,es,clock,c,h1,h2,h3,h4⟩:=h
  exact⟨g,es,clock,c,h1,h2,(ho _ _ rfl h1).trans h3,h4⟩
 | mapp f =>
  obtain⟨g,es,clock,c,h1,h2,h3,h4⟩:=h
  exact⟨g,es,clock,c,h1,h2,(ho _ _ rfl h1).trans h3,h4⟩
 | fmapp f =>
  obtain⟨g,es,clock,c,h1,h2,h3,h4⟩:=h
  exact⟨g,es,clock,c,h1,h2,(hS _ h2).trans h3,h4⟩
 | iterp f cur =>
  obtain⟨g,b,since,seen,c0,es,clock,c,h1,h2,h3,h4,h5,h6⟩:=h
  exact⟨g,b,since,seen,c0,es,clock,c,h1,h2,(ho _ _ rfl h1).trans h3,h4,(hS _ h4).trans h5,h6⟩
 | orows e e' n hole lk len gs =>
  obtain⟨A,c,vs,h1,h2,h3,h4,h5,h6⟩:=h
  refine⟨A,c,vs,h1,own h2 (fun a ha=>ho a c rfl (by rw[h1,ha])),h3,h4,fun j hj hh=>?_,h6⟩
  obtain⟨B,d,us,e1,e2,e3,e4⟩:=h5 j hj hh
  exact⟨B,d,us,e1,own e2 (fun b hb=>hX _ (e3 b hb)),e3,e4⟩
 | stk cs vs=>exact h
 | lup st us cd =>
  obtain⟨g,fn,D,c,h1,h2,h3⟩:=h
  exact⟨g,fn,D,c,h1,h2,(ho _ _ rfl h1).trans h3⟩
 | gone=>trivial
theorem c3h (f:Nat→Nat) (cs:List SV) (j:Nat):(a2k f cs)[j]?=(cs[j]?).map (u9 f):=by
 induction cs generalizing j with
 | nil=>simp[a2k]
 | cons y r ih=>cases j <;> simp[a2k,ih]
theorem c2z:∀ {l:List MBlk} {i:Nat} {k:MBlk},wOk l=true→l[i]?=some k→wOk [k]=true:=by
 intro l
 induction l with
 | nil=>intro i k _ hk; simp at hk
 | cons x r ih =>
  intro i k hw hk
  have:wOk [x]=true∧wOk r=true:=by
   cases x <;> first | exact⟨rfl,hw⟩ | (simp only[wOk] at hw; cases hw)
  cases i with
  | zero=>simp at hk; subst hk; exact this.1
  | succ i=>exact ih this.2 (by simpa using hk)
theorem BR.pick {ρ σ:Env} {W:World} {r i n:Nat} {f:Nat→Nat} {k:MBlk} (h:BR ρ W r (c4q f k)) (hi:∀ y,ρ r=some y→σ i=some y) (hk:a0r n [k]=true) (hw:wOk [k]=true) (hd:∀ x v,x.ltB n=true→Den ρ (u9 f x) v→Den σ x v) (hdL:∀ xs vs,ltL xs n=true→DenL ρ (a2k f xs) vs→DenL σ xs vs)
  (hS:∀ g,ρ.S g→σ.S g) (hR:∀ g,ρ.R g→σ.R g) (hno:∀ a c,l7 k=true→ρ r=some (some a,c)→¬ σ.S a.block):BR σ W i k:=by
 have hc:∀ {col:Col} {j:Nat} {v:Value},j4 ρ.R W col j v→j4 σ.R W col j v:=fun h=>s7 h hR (fun _ _=>rfl)
 cases k with
 | cells cs =>
  simp only[a0r,z1x] at hk
  obtain⟨g,t,vs,c,h1,h2,h3,h4⟩:=h
  exact⟨g,t,vs,c,hi _ h1,hno _ _ rfl h1,h3,hdL _ _ hk h4⟩
 | old cs =>
  simp only[a0r,z1x] at hk
  obtain⟨a,c,h1,h2,h3⟩:=h
  refine⟨a,c,hi _ h1,hS _ h2,fun j x hx=>?_⟩
  have hx':(a2k f cs)[j]?=some (u9 f x):=by rw[c3h,hx]; rfl
  obtain⟨v,hv,hd'⟩:=h3 j _ hx'
  exact⟨v,hv,hd _ _ (a23 hk hx) hd'⟩
 | arr n cols =>
  obtain⟨A,c,h1,hn0,h2⟩:=h
  refine⟨A,c,hi _ h1,hn0,fun hn=>?_⟩
  obtain⟨a,ha,hlt,h3⟩:=h2 hn
  refine⟨a,ha,hS _ hlt,fun j hj k col hcol=>?_⟩
  obtain⟨v,hv,hd⟩:=h3 j hj k col hcol
  exact⟨v,hv,hc hd⟩
 | oarr e n cols =>
  obtain⟨A,c,vs,h1,h2,h3,h4,h5⟩:=h
  refine⟨A,c,vs,hi _ h1,h2,fun a ha=>hno a c rfl (by rw[h1,ha]),h4,fun j hj k col hcol=>?_⟩
  obtain⟨v,hv,hd⟩:=h5 j hj k col hcol
  exact⟨v,hv,hc hd⟩
 | mapi k k' f =>
  obtain⟨g,es,clock,c,h1,h2,h3,h4⟩:=h
  exact⟨g,es,clock,c,hi _ h1,hno _ _ rfl h1,h3,h4⟩
 | mapp f =>
  obtain⟨g,es,clock,c,h1,h2,h3,h4⟩:=h
  exact⟨g,es,clock,c,hi _ h1,hno _ _ rfl h1,h3,h4⟩
 | fmapp f =>
  obtain⟨g,es,clock,c,h1,h2,h3,h4⟩:=h
  exact⟨g,es,clock,c,hi _ h1,hS _ h2,h3,h4⟩
 | iterp f cur=>simp[wOk] at hw
 | orows e e' n hole lk len gs=>simp[wOk] at hw
 | stk cs vs=>simp[wOk] at hw
 | lup st us cd=>simp[wOk] at hw
 | gone=>trivial
theorem BR.unpick {ρ σ:Env} {W:World} {r i n:Nat} {f:Nat→Nat} {k:MBlk} (h:BR ρ W i k) (hi:∀ y,ρ i=some y→σ r=some y) (hk:a0r n [k]=true) (hw:wOk [k]=true) (ho:l7 k=true) (hdL:∀ xs vs,ltL xs n=true→DenL ρ xs vs→DenL σ (a2k f xs) vs)
  (hR:∀ g,ρ.R g→σ.R g) (hno:∀ a c,ρ i=some (some a,c)→¬ σ.S a.block):BR σ W r (c4q f k):=by
 have hc:∀ {col:Col} {j:Nat} {v:Value},j4 ρ.R W col j v→j4 σ.R W col j v:=fun h=>s7 h hR (fun _ _=>rfl)
 cases k with
 | cells cs =>
  simp only[a0r,z1x] at hk
  obtain⟨g,t,vs,c,h1,h2,h3,h4⟩:=h
  exact⟨g,t,vs,c,hi _ h1,hno _ _ h1,h3,hdL _ _ hk h4⟩
 | oarr e n cols =>
  obtain⟨A,c,vs,h1,h2,h3,h4,h5⟩:=h
  refine⟨A,c,vs,hi _ h1,h2,fun a ha=>hno a c (by rw[h1,ha]),h4,fun j hj k col hcol=>?_⟩
  obtain⟨v,hv,hd⟩:=h5 j hj k col hcol
  exact⟨v,hv,hc hd⟩
 | mapi k k' f =>
  obtain⟨g,es,clock,c,h1,h2,h3,h4⟩:=h
  exact⟨g,es,clock,c,hi _ h1,hno _ _ h1,h3,h4⟩
 | mapp f =>
  obtain⟨g,es,clock,c,h1,h2,h3,h4⟩:=h
  exact⟨g,es,clock,c,hi _ h1,hno _ _ h1,h3,h4⟩
 | iterp f cur=>simp[wOk] at hw
 | lup st us cd=>simp[wOk] at hw
 | orows e e' n hole lk len gs=>simp[wOk] at hw
 | _=>simp[l7] at ho
theorem c15 {x:Nat→Option Addr × Nat} {kl:List Nat}:∀ {n i:Nat},i < n→i ∉ kl→(i,x i)∈a55 x kl n:=by
 intro n
 induction n with
 | zero=>intro i hi; omega
 | succ n ih =>
  intro i hi hk
  simp only[a55]
  by_cases e:i=n
  ·subst e
   rw[z0z.2 (fun h=>hk (a0s.1 h))]
   simp
  ·cases y4 n kl
   ·exact z0w _ (ih (by omega) hk)
   ·exact ih (by omega) hk
theorem c16 {x:Nat→Option Addr × Nat} {kl:List Nat}:∀ {n:Nat} {p:Nat × (Option Addr × Nat)},p∈a55 x kl n→p.1 < n∧p.2=x p.1:=by
 intro n
 induction n with
 | zero=>intro p h; cases h
 | succ n ih =>
  intro p h
  simp only[a55] at h
  cases hm:y4 n kl <;> rw[hm] at h
  ·rcases z0s.1 h with rfl | h
   ·exact⟨Nat.lt_succ_self _,rfl⟩
   ·exact⟨Nat.lt_succ_of_lt (ih h).1,(ih h).2⟩
  ·exact⟨Nat.lt_succ_of_lt (ih h).1,(ih h).2⟩
theorem c3b {ups:List (Nat × MBlk)}:∀(n i j:Nat),j < n→(a7u ups i n)[j]?=some (match g7 ups (i + j) with | some k=>k | none=>.gone):=by
 intro n
 induction n with
 | zero=>intro i j h; omega
 | succ n ih =>
  intro i j h
  cases j with
  | zero=>rfl
  | succ j=>simp only[a7u,z1t]; rw[ih (i + 1) j (by omega),show i + 1 + j=i + (j + 1) by omega]
theorem c0c {ups:List (Nat × MBlk)} {kl:List Nat}:∀ {m:List MBlk} {i:Nat},b6c ups kl i m=true→∀(j:Nat) (k:MBlk),m[j]?=some k→(l7 k=true→∃ k',g7 ups (i + j)=some k')∧(l7 k=false→g7 ups (i + j)=none∧i + j ∉ kl):=by
 intro m
 induction m with
 | nil=>intro i _ j k hk; simp at hk
 | cons x r ih =>
  intro i h j k hk
  simp only[b6c,z0d] at h
  cases j with
  | zero =>
   simp at hk
   subst hk
   have h1:=h.1
   simp only[z1i]
   cases ho:l7 x <;> rw[ho] at h1
   ·refine⟨fun e=>(by cases e),fun _=>?_⟩
    simp only[z0m] at h1
    split at h1
    ·cases h1
    ·rename_i e
     exact⟨e,fun hm=>(by rw[a0s.2 hm] at h1; cases h1)⟩
   ·refine⟨fun _=>?_,fun e=>by cases e⟩
    simp only[z0f] at h1
    split at h1
    ·rename_i k' e; exact⟨k',e⟩
    ·cases h1
  | succ j =>
   have:=ih h.2 j k (by simpa using hk)
   rw[show i + 1 + j=i + (j + 1) by omega] at this
   exact this
theorem c59 {all:List (Nat × MBlk)} {n:Nat}:∀ {ups:List (Nat × MBlk)},b61 all n ups=true→∀(i:Nat) (k:MBlk),g7 ups i=some k→i < n∧l7 k=true:=by
 intro ups
 induction ups with
 | nil=>intro _ i k h; simp[g7] at h
 | cons x r ih =>
  intro h i k hk
  obtain⟨q,y⟩:=x
  simp only[b61,z0d,z0u] at h
  simp only[g7] at hk
  cases hb:Nat.beq q i <;> rw[hb] at hk
  ·exact ih h.2 i k hk
  ·have:=z0b hb
   subst this
   simp only[z0f,z0a] at hk
   subst hk
   exact⟨h.1.1.1,h.1.1.2⟩
theorem b4p:∀(u:List (Nat × MBlk)) (m:List MBlk),(t4 m u).length=m.length:=by
 intro u
 induction u with
 | nil=>intro m; rfl
 | cons p r ih=>intro m; obtain⟨i,k⟩:=p; simp only[t4,ih,d8]
theorem c8q {f:Nat→Nat} {n:Nat} (hf:∀ i j,i < n→j < n→f i=f j→i=j) {all:List (Nat × MBlk)}:∀ {ups:List (Nat × MBlk)},b61 all n ups=true→∀(m:List MBlk) (r:Nat) (k:MBlk),(t4 m (c1w f ups))[r]?=some k →
  (∃ i k',f i=r∧g7 ups i=some k'∧k=c4q f k')∨((∀ i k',g7 ups i=some k'→f i≠r)∧m[r]?=some k):=by
 intro ups
 induction ups with
 | nil=>intro _ m r k h; exact .inr ⟨fun i k' h=>by simp[g7] at h,h⟩
 | cons x rest ih =>
  intro h m r k hk
  obtain⟨q,y⟩:=x
  have h':=h
  simp only[b61,z0d,z0u] at h
  simp only[c1w,t4] at hk
  rcases ih h.2 _ r k hk with⟨i,k',e1,e2,e3⟩ | ⟨e1,e2⟩
  ·refine .inl ⟨i,k',e1,?_,e3⟩
   have:Nat.beq q i=false:=by
    cases hb:Nat.beq q i
    ·rfl
    ·have:=z0b hb
     subst this
     have h3:=h.1.2
     rw[e2] at h3
     cases h3
   simp only[g7,this,z0m]
   exact e2
  ·rw[j7] at e2
   split at e2
   ·rename_i hc
    simp only[z0a] at e2
    exact .inl ⟨q,y,hc.1.symm,by simp[g7],e2.symm⟩
   ·rename_i hc
    by_cases hlt:r < m.length
    ·refine .inr ⟨fun i k' hi=>?_,e2⟩
     simp only[g7] at hi
     cases hb:Nat.beq q i <;> rw[hb] at hi
     ·exact e1 i k' hi
     ·have:=z0b hb
      subst this
      intro e
      exact hc ⟨e.symm,by rw[e]; exact hlt⟩
    ·rw[List.getElem?_eq_none (by omega)] at e2
     cases e2
section
variable {P:Program}
theorem c20 {G:List (Nat × Nat)} {fid:FuncId} {fn:Func} {F:List MBlk→List SV→Option BRes} (hfn:P.funcs[fid]?=some fn) (hok:o8 P fid)
  (hF:∀ m vs b,F m vs=some b→(∀ p∈b.pre,p)→∃(T:Tab) (is:List Nat) (m0:List MBlk) (vs0:List SV) (kl:List Nat) (ups:List (Nat × MBlk)) (sv0:SV) (pre:List Prop),
   (∀ pins,TabOk P { T with pins:=pins })∧T.globals=[]∧b=tB is kl ups sv0 pre∧a74 is=true∧is.length=m0.length∧vs=a2k (ixF is) vs0∧(∀ i k0,m0[i]?=some k0→m[ixF is i]?=some (c4q (ixF is) k0)) ∧
   (ltL vs0 m0.length && a0r m0.length m0 && wOk m0 && b1o vs0 m0 m0.length && sv0.ltB m0.length && a0r m0.length (a7u ups 0 m0.length) && wOk (a7u ups 0 m0.length) && b6c ups kl 0 m0 && b61 ups m0.length ups && c2d m0.length kl)=true ∧
   ∀ x:Nat→Option Addr × Nat,n9 { T with pins:=a55 x kl m0.length } fn vs0 m0 (fun sv m'=>veq sv0 sv∧a61 (a7u ups 0 m0.length) m')):CallOkB P G fid F:=by
 refine⟨hok,fun K w0 ρ W m vs xs b _ hm hd h hp=>?_⟩
 obtain⟨T,is,m0,vs0,kl,ups,sv0,pre,hT,hTg,rfl,hnd,hlen,rfl,hsel,hchk,hv⟩:=hF m vs b h hp
 simp only[z0d] at hchk
 obtain⟨⟨⟨⟨⟨⟨⟨⟨⟨c1,c2⟩,c3⟩,c4⟩,c5⟩,c6⟩,c7⟩,c8⟩,c9⟩,c10⟩:=hchk
 have hnd:=c0v.1 hnd
 generalize hfe:ixF is=f at *
 have hinj:∀ i j,i < m0.length→j < m0.length→f i=f j→i=j:=fun i j hi hj e=>by
  subst hfe
  exact c9j hnd (by omega) (by omega) e
 have hin:∀ i,i < m0.length→f i < m.length:=fun i hi=>(z0c.1 (hsel i _ (z0i hi))).1
 let own0:Nat→Prop:=fun g=>∃ i k a c,m0[i]?=some k∧l7 k=true∧ρ (f i)=some (some a,c)∧a.block=g
 let σ0:Env:=⟨fun i=>if i < m0.length then ρ (f i) else none,fun g=>g < W.heap.size∧¬ own0 g,ρ.R,fun _ _=>False⟩
 have hσ0:∀ i,i < m0.length→σ0 i=ρ (f i):=fun i hi=>if_pos hi
 have hσ0':∀ i y,σ0 i=some y→i < m0.length∧ρ (f i)=some y:=fun i y hy=>by
  simp only[σ0] at hy
  split at hy
  ·rename_i h; exact⟨h,hy⟩
  ·cases hy
 have hownB:∀ i k a c,m0[i]?=some k→l7 k=true→ρ (f i)=some (some a,c)→¬ ρ.S a.block∧a.block < W.heap.size:=fun i k a c hk ho ha=>by
  have:=t9 (hm.blk (f i) _ (hsel i k hk) (by rw[ha]; simp)) (by cases k <;> exact ho) ha
  exact this
 have hSσ:∀ g,ρ.S g→σ0.S g:=fun g hg=>⟨hm.hS g hg,fun⟨i,k,a,c,hk,ho,ha,e⟩=>(hownB i k a c hk ho ha).1 (by rw[e]; exact hg)⟩
 have hRσ:∀ g,ρ.R g→σ0.R g:=fun g hg=>⟨hSσ g hg.1,hg⟩
 have hden:∀ x v,x.ltB m0.length=true→Den ρ (u9 f x) v→Den σ0 x v:=fun x v hl hx=>a05 hl (fun r y hr hy=>by rw[hσ0 r hr]; exact hy) (b5r x v hx)
 have hdenL:∀ ys vs,ltL ys m0.length=true→DenL ρ (a2k f ys) vs→DenL σ0 ys vs:=fun ys vs hl hx=>by
  have h1:=a78 ys vs hx
  exact⟨h1.1,fun j x v hx' hv'=>a05 (a23 hl hx') (fun r y hr hy=>by rw[hσ0 r hr]; exact hy) (h1.2 j x v hx' hv')⟩
 have hblk0:∀ i k0,m0[i]?=some k0→σ0 i≠none→BR σ0 W i k0:=fun i k0 hk hne=>by
  obtain⟨y,hy⟩:=z1v.1 hne
  obtain⟨hi,hy⟩:=hσ0' i y hy
  refine(hm.blk (f i) _ (hsel i k0 hk) (by rw[hy]; simp)).pick (fun y h=>by rw[hσ0 i hi]; exact h) (b09 c2 hk) (c2z c3 hk) hden hdenL hSσ hRσ fun a c ho ha hs=>hs.2 ⟨i,k0,a,c,hk,ho,ha,rfl⟩
 have hd0:DenL σ0 vs0 xs:=hdenL _ _ c1 hd
 have hsome:=b66 hd0 hblk0 _ c4
 let x:Nat→Option Addr × Nat:=fun i=>(ρ (f i)).getD (none,0)
 have hx:∀ i,i < m0.length→σ0 i=some (x i):=fun i hi=>by
  obtain⟨y,hy⟩:=z1v.1 (hsome i hi)
  rw[hσ0 i hi] at hy ⊢
  simp[x,hy]
 have hm0:MR ⟨σ0.S,ρ.R⟩ W W σ0 m0:=⟨fun g hg=>hg,fun g hg=>.inl hg.2,fun g hg=>hg.1,.refl _ _,hblk0,fun i hne=>by
  obtain⟨y,hy⟩:=z1v.1 hne
  exact(hσ0' i y hy).1,fun _ _ h=>h.elim,fun _ _ _ h=>h.elim,fun _ _ _ _ _ _ h=>h.elim,fun i j k l a b c d hk hl ho ho' ha hb e=>by
  obtain⟨hi,ha⟩:=hσ0' i _ ha
  obtain⟨hj,hb⟩:=hσ0' j _ hb
  exact hinj i j hi hj (hm.sep (f i) (f j) _ _ a b c d (hsel i k hk) (hsel j l hl) (by cases k <;> exact ho) (by cases l <;> exact ho') ha hb e)⟩
 refine Calls.mono (a94 (hT (a55 x kl m0.length)) hfn (hv x) hm0 ⟨fun g r hg=>(by simp only at hg; rw[hTg] at hg; cases hg),fun p hp=>(by
  obtain⟨h1,h2⟩:=c16 hp
  rw[h2]; exact hx _ h1)⟩ hd0) fun e W' ⟨v,ρ',m',sv,he,hdv,hm',⟨hve,hma⟩,hgl⟩=>⟨v,he,?_⟩
 have hpin:∀ i,i < m0.length→i ∉ kl→ρ' i=ρ (f i):=fun i hi hk=>by
  rw[hgl.pin _ (c15 (x:=x) hi hk),← hσ0 i hi,hx i hi]
 let inv:Nat→Option Nat:=fun r=>(List.range m0.length).find? (fun i=>f i == r)
 have inv_f:∀ i,i < m0.length→inv (f i)=some i:=fun i hi=>by
  cases hfi:inv (f i) with
  | none =>
   have:=List.find?_eq_none.1 hfi i (z2q.2 hi)
   simp at this
  | some j =>
   have h1:=List.find?_some hfi
   have h2:=List.mem_of_find?_eq_some hfi
   rw[hinj j i (z2q.1 h2) hi (by simpa using h1)]
 have inv_some:∀ r i,inv r=some i→i < m0.length∧f i=r:=fun r i h=>⟨z2q.1 (List.mem_of_find?_eq_some h),by simpa using List.find?_some h⟩
 let σ:Env:=⟨fun r=>match inv r with
  | some i=>ρ' i
  | none=>ρ r,fun g=>ρ.S g∨(ρ'.S g∧¬ σ0.S g),fun g=>ρ.T g∨(ρ'.T g∧¬ σ0.S g),ρ.X⟩
 have hσf:∀ i,i < m0.length→σ (f i)=ρ' i:=fun i hi=>by simp only[σ,inv_f i hi]
 have hσn:∀ r,inv r=none→σ r=ρ r:=fun r h=>by simp only[σ,h]
 have hle:∀ r y,r ∉ a9a f kl→ρ r=some y→σ r=some y:=fun r y hr hy=>by
  cases hi:inv r with
  | none=>rw[hσn r hi]; exact hy
  | some i =>
   obtain⟨h1,rfl⟩:=inv_some r i hi
   rw[hσf i h1,hpin i h1 (fun hk=>hr (b3e.2 ⟨i,hk,rfl⟩))]
   exact hy
 have hbackL:∀ ys vs,ltL ys m0.length=true→DenL ρ' ys vs→DenL σ (a2k f ys) vs:=fun ys vs hl h=>a5m (n:=m0.length) (fun i y hi hy=>by rw[hσf i hi]; exact hy) ys vs hl h
 have hRle:∀ g,ρ'.R g→σ.R g:=fun g hg=>by
  rcases hm'.rows g hg with h | h
  ·exact⟨.inl h.1,.inl h.2⟩
  ·exact⟨.inr ⟨hg.1,h⟩,.inr ⟨hg.2,h⟩⟩
 have keepG:∀ g,σ0.S g→W'.heap[g]?=W.heap[g]?:=fun g hg=>hm'.below.block g hg
 have notS:∀ g,σ0.S g→ρ.S g∨¬ σ.S g:=fun g hg=>by
  by_cases h:ρ.S g
  ·exact .inl h
  ·exact .inr fun h'=>h'.elim h (fun h2=>h2.2 hg)
 have mget:∀ r k,(t4 (x6 (a9a f kl) m) (c1w f ups))[r]?=some k→(∃ i k' k0,i < m0.length∧f i=r∧k=c4q f k'∧l7 k'=true∧(a7u ups 0 m0.length)[i]?=some k'∧m0[i]?=some k0∧(ρ' i≠none→BR ρ' W' i k')) ∨
   ((∀ i k0,f i=r→m0[i]?=some k0→l7 k0=false)∧r ∉ a9a f kl∧(ρ r≠none↔σ r≠none)∧(∀ y,σ r=some y→ρ r=some y)∧∃ l,m[r]?=some l∧k=l9 (a9a f kl) l):=fun r k hk=>by
  rcases c8q hinj c9 _ r k hk with⟨i,k',rfl,e2,e3⟩ | ⟨e1,e2⟩
  ·obtain⟨hi,hok'⟩:=c59 c9 i k' e2
   have hexp:(a7u ups 0 m0.length)[i]?=some k':=by rw[c3b _ _ _ hi,z1d,e2]
   refine .inl ⟨i,k',_,hi,rfl,e3,hok',hexp,z0i hi,fun hne=>?_⟩
   rcases a4c hma hexp with rfl | ⟨k1,h1,h2⟩
   ·simp[l7] at hok'
   ·exact c0t h2 (hm'.blk i k1 h1 hne)
  ·rw[a19,z0h] at e2
   obtain⟨l,hl,rfl⟩:=e2
   have hcov:∀ i k0,f i=r→m0[i]?=some k0→l7 k0=false∧i ∉ kl:=fun i k0 hfi hk0=>by
    obtain⟨q1,q2⟩:=c0c c8 i k0 hk0
    cases ho:l7 k0
    ·exact⟨rfl,by have:=(q2 ho).2; simpa using this⟩
    ·obtain⟨k',hk'⟩:=q1 ho
     rw[z1d] at hk'
     exact absurd hfi (e1 i k' hk')
   have hnr:r ∉ a9a f kl∨∃ i,i∈kl∧f i=r:=by
    by_cases h:r∈a9a f kl
    ·obtain⟨i,h1,h2⟩:=b3e.1 h
     exact .inr ⟨i,h1,h2⟩
    ·exact .inl h
   have hkr:r ∉ a9a f kl:=by
    intro hmem
    obtain⟨i,h1,h2⟩:=b3e.1 hmem
    have hi:=c3y c10 i h1
    exact(hcov i _ h2 (z0i hi)).2 h1
   have hsame:∀ y,σ r=some y↔ρ r=some y:=fun y=>by
    cases hi:inv r with
    | none=>rw[hσn r hi]
    | some i =>
     obtain⟨h1,h2⟩:=inv_some r i hi
     have h3:=(hcov i _ h2 (z0i h1)).2
     rw[← h2,hσf i h1,hpin i h1 h3]
   refine .inr ⟨fun i k0 h1 h2=>(hcov i k0 h1 h2).1,hkr,⟨fun h=>?_,fun h=>?_⟩,fun y hy=>(hsame y).1 hy,l,hl,rfl⟩
   ·obtain⟨y,hy⟩:=z1v.1 h
    rw[(hsame y).2 hy]; simp
   ·obtain⟨y,hy⟩:=z1v.1 h
    rw[(hsame y).1 hy]; simp
 have hmlen:(t4 (x6 (a9a f kl) m) (c1w f ups)).length=m.length:=by rw[b4p,z6]
 have downB:∀ i k' a c,i < m0.length→l7 k'=true→(ρ' i≠none→BR ρ' W' i k')→ρ' i=some (some a,c)→¬ ρ'.S a.block∧a.block < W'.heap.size:=fun i k' a c hi ho hb ha=>t9 (hb (by rw[ha]; simp)) ho ha
 have keepS:∀ r l a c,m[r]?=some l→l7 l=true→ρ r=some (some a,c)→(∀ i k0,f i=r→m0[i]?=some k0→l7 k0=false)→σ0.S a.block:=fun r l a c hl ho ha hno=>by
  have h1:=t9 (hm.blk r l hl (by rw[ha]; simp)) ho ha
  refine⟨h1.2,fun⟨i,k,a',c',hk,ho',ha',e⟩=>?_⟩
  have:=hm.sep (f i) r _ l a' a c' c (hsel i k hk) hl (by cases k <;> exact ho') ho ha' ha e
  rw[hno i k this hk] at ho'
  cases ho'
 have keepX:∀ r g,ρ.X r g→σ0.S g:=fun r g hx=>by
  obtain⟨_,_,h3⟩:=hm.xlt r g hx
  exact⟨h3,fun⟨i,k,a',c',hk,ho',ha',e⟩=>hm.xown r g (f i) _ a' c' hx (hsel i k hk) (by cases k <;> exact ho') ha' e⟩
 have htB:tB is kl ups sv0 pre=⟨pre,u9 f sv0,a9a f kl,c1w f ups,[]⟩:=by rw[← hfe]; rfl
 rw[htB]
 refine⟨σ,hle,?_,?_⟩
 ·exact b3q (n:=m0.length) (fun i y hi hy=>by rw[hσf i hi]; exact hy) sv0 v c5 (a3l _ _ _ hve hdv)
 simp only[z1f]
 refine⟨fun g hg=>.inl (hm.sub g hg),fun g hg=>?_,fun g hg=>?_,hm.below.trans ⟨hm'.below.os,hm'.below.tape,hm'.below.output,hm'.below.size,fun g hg=>keepG g (hSσ g (hm.sub g hg))⟩,fun r k hk hr=>?_,fun r hr=>?_,fun r g hx=>?_,hm.xsep,fun r g s k a c hx hk ho hs=>?_,?_⟩
 ·by_cases h:ρ.S g
  ·rcases hg.2 with h2 | h2
   ·exact hm.rows g ⟨h,h2⟩
   ·exact absurd (hSσ g h) h2.2
  ·exact .inr fun hk=>h (hm.sub g hk)
 ·rcases hg with h | h
  ·exact z2c (hm.hS g h) hm'.below.size
  ·exact hm'.hS g h.1
 ·rcases mget r k hk with⟨i,k',k0,hi,rfl,rfl,ho,he',hk0,hb⟩ | ⟨hno,hnk,hiff,hback,l,hl,rfl⟩
  ·rw[hσf i hi] at hr
   refine(hb hr).unpick (n:=m0.length) (fun y hy=>by rw[hσf i hi]; exact hy) (b09 c6 he') (c2z c7 he') ho hbackL hRle fun a c ha hs=>?_
   have:=(downB i k' a c hi ho hb ha).1
   rcases hs with hs | hs
   ·exact this (hm'.sub _ (hSσ _ hs))
   ·exact this hs.1
  ·have hne:=hiff.2 hr
   have h0:=hm.blk r l hl hne
   have hw:BR ρ W' r l:=h0.world (fun g hg=>keepG g (hSσ g hg)) (fun a c ho ha=>keepG _ (keepS r l a c hl ho ha hno)) (fun g hg=>keepG g (keepX r g hg))
   have hst:=hw.struck hnk hle (fun g hg=>.inl hg) (fun g hg=>.inl hg) (fun a c ho ha hs=>by
    rcases hs with hs | hs
    ·exact(t9 h0 ho ha).1 hs
    ·exact hs.2 (keepS r l a c hl ho ha hno)) (fun g hg=>hg)
   exact hst
 ·rw[hmlen]
  cases hi:inv r with
  | none=>rw[hσn r hi] at hr; exact hm.dom r hr
  | some i =>
   obtain⟨h1,rfl⟩:=inv_some r i hi
   exact hin i h1
 ·obtain⟨h1,h2,h3⟩:=hm.xlt r g hx
  refine⟨by rw[hmlen]; exact h1,fun hs=>?_,z2c h3 hm'.below.size⟩
  rcases hs with hs | hs
  ·exact h2 hs
  ·exact hs.2 (keepX r g hx)
 ·rcases mget s k hk with⟨i,k',k0,hi,rfl,rfl,ho',he',hk0,hb⟩ | ⟨hno,hnk,hiff,hback,l,hl,rfl⟩
  ·rw[hσf i hi] at hs
   intro e
   exact(downB i k' a c hi ho' hb hs).1 (hm'.sub _ (by rw[e]; exact keepX r g hx))
  ·exact hm.xown r g s l a c hx hl (by cases l <;> exact ho) (hback _ hs)
 ·intro s1 s2 k1 k2 a1 a2 d1 d2 hk1 hk2 ho1 ho2 hr1 hr2 hb
  have mix:∀ {i:Nat} {k':MBlk} {s:Nat} {l:MBlk} {a a':Addr} {c c':Nat},i < m0.length→l7 k'=true→(ρ' i≠none→BR ρ' W' i k')→ρ' i=some (some a,c)→m[s]?=some l→l7 l=true→ρ s=some (some a',c')→(∀ i k0,f i=s→m0[i]?=some k0→l7 k0=false)→a.block=a'.block→False:=fun {i k' s l a a' c c'} hi ho hbr ha hl hol ha' hno e=>by
   have h1:=(downB i k' a c hi ho hbr ha).1
   exact h1 (hm'.sub _ (by rw[e]; exact keepS s l a' c' hl hol ha' hno))
  rcases mget s1 k1 hk1 with⟨i,q1,p1,hi,rfl,rfl,o1,e1,_,b1⟩ | ⟨n1,_,_,t1,l1,hl1,rfl⟩ <;> rcases mget s2 k2 hk2 with⟨j,q2,p2,hj,rfl,rfl,o2,e2,_,b2⟩ | ⟨n2,_,_,t2,l2,hl2,rfl⟩
  ·rw[hσf i hi] at hr1
   rw[hσf j hj] at hr2
   have g1:∀ i k',i < m0.length→l7 k'=true→(a7u ups 0 m0.length)[i]?=some k'→∃ k1,m'[i]?=some k1∧l7 k1=true:=fun i k' _ ho he=>by
    rcases a4c hma he with rfl | ⟨k1,h1,h2⟩
    ·simp[l7] at ho
    ·exact⟨k1,h1,a9b h2 ho⟩
   obtain⟨z1,y1,w1⟩:=g1 i q1 hi o1 e1
   obtain⟨z2,y2,w2⟩:=g1 j q2 hj o2 e2
   rw[hm'.sep i j z1 z2 a1 a2 d1 d2 y1 y2 w1 w2 hr1 hr2 hb]
  ·rw[hσf i hi] at hr1
   exact(mix hi o1 b1 hr1 hl2 (by cases l2 <;> exact ho2) (t2 _ hr2) n2 hb).elim
  ·rw[hσf j hj] at hr2
   exact(mix hj o2 b2 hr2 hl1 (by cases l1 <;> exact ho1) (t1 _ hr1) n1 hb.symm).elim
  ·exact hm.sep s1 s2 l1 l2 a1 a2 d1 d2 hl1 hl2 (by cases l1 <;> exact ho1) (by cases l2 <;> exact ho2) (t1 _ hr1) (t2 _ hr2) hb
end
end Go.Proofs.YtaeeaniofljmnaaGreatDoor.Sx

/-
  A part of the proof (Yx3).
-/
import Derived.Test.YtaeeaniofljmnaaGreatDoorYx2
import Derived.Great.BuildSlice
import Derived.ChangeKeysEq
namespace Go.Proofs.YtaeeaniofljmnaaGreatDoor.Sx
set_option linter.unusedSimpArgs false
set_option linter.unusedVariables false
open Go Go.RowKit
def d0n:SV→Value→Bool
 | .dead,_=>true
 | .tt,.bool true=>true
 | .ff,.bool false=>true
 | .b x,.bool y=>x == y
 | .i k n,.int k' n'=>kEq k k' && (n == n')
 | .nilsl,.slice none 0 0=>true
 | .nilptr,.pointer none=>true
 | .nilmap,.map none=>true
 | _,_=>false
def b5y:List SV→List Value→Bool
 | [],[]=>true
 | x :: xs,v :: vs=>d0n x v && b5y xs vs
 | _,_=>false
theorem b9p {x:SV} {v:Value} (ρ:Env) (h:d0n x v=true):Den ρ x v:=by
 unfold d0n at h
 split at h <;> first
  | exact .dead _
  | exact .tt
  | exact .ff
  | exact .nilsl
  | exact .nilptr
  | exact .nilmap
  | (simp only[beq_iff_eq] at h; subst h; exact .b _)
  | (simp only[z0d,beq_iff_eq,u4] at h; obtain⟨rfl,rfl⟩:=h; exact .i _ _)
  | cases h
theorem c54 {xs:List SV} {vs:List Value} (ρ:Env) (h:b5y xs vs=true):DenL ρ xs vs:=by
 induction xs generalizing vs with
 | nil=>cases vs <;> simp[b5y] at h; exact DenL.nil ρ
 | cons x xs ih =>
  cases vs with
  | nil=>simp[b5y] at h
  | cons v vs =>
   simp only[b5y,z0d] at h
   exact DenL.cons (b9p ρ h.1) (ih h.2)
def a56 (P:Program) (t:Nat) (k:Option IntKind):Bool:=
 decide ((P.info? t).map (·.size)=some 1) && (match P.underlying t,k with
 | some (.int k),some k'=>kEq k k'
 | some .bool,none=>true
 | _,_=>false)
def z7 (P:Program):List Field→List (Option IntKind)→Nat→Bool
 | [],[],_=>true
 | f :: fs,k :: ks,n=>decide (f.name≠ "_") && Nat.beq f.offset n && a56 P f.type k && z7 P fs ks (n + 1)
 | _,_,_=>false
def a2j (P:Program) (e:Nat):List (Option IntKind)→Bool
 | []=>true
 | k :: ks=>a56 P e k && a2j P e ks
def a93 (P:Program):List Field→List Bool→Bool
 | [],[]=>true
 | f :: fs,b :: bs=>(match P.underlying f.type with
  | some (.struct _)=>b
  | some (.array _ _)=>b
  | some _=>!b
  | none=>false) && a93 P fs bs
 | _,_=>false
def a0t (P:Program) (t:Nat) (ti:TI):Bool:=
 (match P.info? t with
  | some i=>Nat.beq i.size ti.size && Nat.beq i.bytes ti.bytes && (match ti.zero with
   | []=>true
   | z=>match i.zero with
    | some v=>b5y z v.cells.toList
    | none=>false)
  | none=>false) &&
 (match P.underlying t with
  | some (.struct fs)=>Nat.beq ti.kind 1 && (match fs.toList.mapM (fun f=>(P.info? f.type).map fun i=>(f.offset,i.size)) with
   | some l=>decide (l=ti.offs)
   | none=>false) && (match ti.eqk with
    | some ks=>!(P.stoodInHeld t) && !(P.eqGuardType P.depth t) && z7 P fs.toList ks 0
    | none=>true)
  | some (.array n e)=>Nat.beq ti.kind 2 && Nat.beq n ti.len && Nat.beq e ti.elem && (match ti.eqk with
    | some ks=>!(P.eqGuardType P.depth t) && a2j P e ks && Nat.beq ks.length n && !(ks.isEmpty)
    | none=>true)
  | some (.slice e)=>Nat.beq ti.kind 3 && ti.eqk.isNone && Nat.beq e ti.elem && decide ((P.info? e).map (·.size)=some ti.len)
  | some (.map k e)=>Nat.beq ti.kind 4 && ti.eqk.isNone && Nat.beq ti.elem k && Nat.beq ti.len e
  | some (.int k)=>Nat.beq ti.kind 0 && ti.eqk.isNone && (match ti.ik with | some k'=>kEq k k' | none=>true)
  | some .bool=>Nat.beq ti.kind 5 && ti.eqk.isNone && ti.ik.isNone
  | some .string=>Nat.beq ti.kind 6 && ti.eqk.isNone && ti.ik.isNone
  | some (.pointer _)=>Nat.beq ti.kind 0 && ti.eqk.isNone && ti.ik.isNone
  | some (.func _ _ _)=>Nat.beq ti.kind 0 && ti.eqk.isNone && ti.ik.isNone
  | _=>false)
def a5w (P:Program) (t:Nat) (ti:TI):Bool:=
 (match ti.ik with
 | some k=>(match P.info? t with
  | some i=>(match i.zero with
   | some (.int q (.ofNat 0))=>kEq q k
   | _=>false)
  | none=>false)
 | none=>true) &&
 (match ti.fagg with
 | []=>true
 | l=>match P.underlying t with
  | some (.struct fs)=>a93 P fs.toList l
  | _=>false) &&
 (bif Nat.beq ti.kind 5 then(match P.info? t with
  | some i=>(match i.zero with
   | some (.bool false)=>true
   | _=>false)
  | none=>false) else true)
def o8 (P:Program) (f:Nat):Prop:=∃ fn,P.funcs[f]?=some fn∧(fn.name == "runtime.NumGoroutine")=false∧fn.body.isNone=false
def c5e (G:List (Nat × Nat)) (ρ:Env):Prop:=∀ g r,g7 G g=some r→∃ c,ρ r=some (some ⟨g,0,none⟩,c)
structure CallOk (P:Program) (G:List (Nat × Nat)) (f:Nat) (F:List MBlk→List SV→Option AR):Prop where
 fn:o8 P f
 ok:∀(ρ:Env) (W:World) (m:List MBlk) (vs:List SV) (xs:List Value) (ar:AR),c5e G ρ→(∀ g,ρ.S g→g < W.heap.size)→(∀ r k,m[r]?=some k→ρ r≠none→BR ρ W r k) →
  (∀ r,m.length≤r→r < m.length + ar.new.length→ρ r=none)→DenL ρ vs xs→F m vs=some ar→(∀ p∈ar.pre,p) →
  Calls P f xs.toArray W (fun e W'=>∃ v,e=.returned v∧StepPost ρ W m.length ar.sv ar.new v W')
def a2y (K:Lim) (w0:World) (ρ:Env) (m:List MBlk) (b:BRes) (v:Value) (W':World):Prop:=
 ∃ σ:Env,(∀ r y,r ∉ b.kill→ρ r=some y→σ r=some y)∧Den σ b.sv v∧MR K w0 W' σ (t4 (x6 b.kill m) b.upd ++ b.new)
structure CallOkB (P:Program) (G:List (Nat × Nat)) (f:Nat) (F:List MBlk→List SV→Option BRes):Prop where
 fn:o8 P f
 ok:∀(K:Lim) (w0:World) (ρ:Env) (W:World) (m:List MBlk) (vs:List SV) (xs:List Value) (b:BRes),c5e G ρ→MR K w0 W ρ m→DenL ρ vs xs→F m vs=some b→(∀ p∈b.pre,p) →
  Calls P f xs.toArray W (fun e W'=>∃ v,e=.returned v∧a2y K w0 ρ m b v W')
structure TabOk (P:Program) (T:Tab):Prop where
 mixed:P.follows .mixedOrders=true
 types:∀ t ti,g7 T.types t=some ti→a0t P t ti=true
 ints:∀ t ti,g7 T.types t=some ti→a5w P t ti=true
 calls:∀ f F,g7 T.calls f=some F→CallOk P T.globals f F
 callsB:∀ f F,g7 T.callsB f=some F→CallOkB P T.globals f F
 inl:∀ f J,g7 T.inl f=some J→P.funcs[f]?=some J.fn∧o8 P f
 back:∀ k,T.back=some k→k.cd=⟨k.ps,k.assign,k.body⟩∧(k.s,(none,0))∈T.pins∧∃ x,(k.r,x)∈T.pins
structure GlobOk (T:Tab) (ρ:Env):Prop where
 gl:∀ g r,g7 T.globals g=some r→∃ c,ρ r=some (some ⟨g,0,none⟩,c)
 pin:∀ p,p∈T.pins→ρ p.1=some p.2
theorem c41 {p:List (Nat × (Option Addr × Nat))} {r:Nat}:r∈a80 p↔∃ x,(r,x)∈p:=by
 induction p with
 | nil=>simp[a80]
 | cons x p ih =>
  obtain⟨i,a⟩:=x
  simp only[a80,z0s,ih]
  constructor
  ·rintro (rfl | ⟨y,h⟩)
   ·exact⟨a,.inl rfl⟩
   ·exact⟨y,.inr h⟩
  ·rintro ⟨y,h | h⟩
   ·simp only[z0g] at h; exact .inl h.1
   ·exact .inr ⟨y,h⟩
theorem a8l {G:List (Nat × Nat)} {p:List (Nat × (Option Addr × Nat))} {r:Nat}:r∈a76 G p↔(∃ g,(g,r)∈G)∨(∃ x,(r,x)∈p):=by
 induction G with
 | nil=>simp[a76,c41]
 | cons x G ih =>
  obtain⟨i,a⟩:=x
  simp only[a76,z0s,ih]
  constructor
  ·rintro (rfl | ⟨g,h⟩ | h)
   ·exact .inl ⟨i,.inl rfl⟩
   ·exact .inl ⟨g,.inr h⟩
   ·exact .inr h
  ·rintro (⟨g,h | h⟩ | h)
   ·simp only[z0g] at h; exact .inl h.2
   ·exact .inr (.inl ⟨g,h⟩)
   ·exact .inr (.inr h)
theorem a46 {T:Tab} {g r:Nat} (h:g7 T.globals g=some r):r∈a0z T:=a8l.2 (.inl ⟨g,w5 h⟩)
theorem a5i {T:Tab} {p:Nat × (Option Addr × Nat)} (h:p∈T.pins):p.1∈a0z T:=a8l.2 (.inr ⟨p.2,h⟩)
def sat (a:Act) (c:List (Nat × Bool)):Prop:=∀ q w,(q,w)∈c→a.tmps.getD q undef=.bool w
theorem b86 {x:Nat × Bool} {c:List (Nat × Bool)}:b6l x c=true↔x∈c:=by
 induction c with
 | nil=>simp[b6l]
 | cons y r ih =>
  simp only[b6l,z1r,z0d,beq_iff_eq,ih,z0s]
  constructor
  ·rintro (⟨h1,h2⟩ | h)
   ·exact .inl (Prod.ext (z0b h1) h2)
   ·exact .inr h
  ·rintro (rfl | h)
   ·exact .inl ⟨z2g _,rfl⟩
   ·exact .inr h
theorem b5w {a:Act} {d c:List (Nat × Bool)} (h:b43 d c=true) (hc:sat a c):sat a d:=by
 induction d with
 | nil=>intro q w hq; cases hq
 | cons x r ih =>
  simp only[b43,z0d,b86] at h
  intro q w hq
  rcases z0s.1 hq with rfl | hq
  ·exact hc _ _ h.1
  ·exact ih h.2 q w hq
def OpsOk (ρ:Env) (sl:List Slot) (a:Act) (xs:List Operand):Prop:=∀ t s,Operand.tmp t∈xs→nth sl t=some s→sat a s.ch→Den ρ s.sv (a.tmps.getD t undef)
section
variable {P:Program} {T:Tab} {ρ:Env} {sl:List Slot} {a:Act} {c:List (Nat × Bool)}
theorem f7 {x:Operand} {v:SV} (hG:GlobOk T ρ) (h:q7 T sl c x=some v) (hs:OpsOk ρ sl a [x]) (hc:sat a c):Den ρ v (a.eval x):=by
 unfold q7 at h
 cases hg:b59 T sl x with
 | none=>simp[hg] at h
 | some s =>
  simp only[hg] at h
  cases hsub:b43 s.ch c
  ·simp[hsub] at h
  ·simp only[hsub,z0f,z0a] at h
   subst h
   cases x with
   | tmp t=>exact hs t s (by simp) hg (b5w hsub hc)
   | const w=>simp only[b59,z0a] at hg; subst hg; exact c9u ρ w
   | global g =>
    simp only[b59] at hg
    split at hg
    ·rename_i r hr
     simp only[z0a] at hg
     subst hg
     obtain⟨k,hk⟩:=hG.gl g r hr
     have:=Den.ptr (off:=0) hk
     exact this
    ·cases hg
   | func f=>simp only[b59,z0a] at hg; subst hg; exact .fn rfl (fun j x v hx=>by simp at hx)
theorem OpsOk.sub {xs ys:List Operand} (h:OpsOk ρ sl a ys) (hs:∀ x∈xs,x∈ys):OpsOk ρ sl a xs:=fun t s ht hn hc=>h t s (hs _ ht) hn hc
theorem a4k {xs:List Operand} {vs:List SV} (hG:GlobOk T ρ) (h:a2l T sl c xs=some vs) (hs:OpsOk ρ sl a xs) (hc:sat a c):DenL ρ vs (xs.map a.eval):=by
 induction xs generalizing vs with
 | nil=>simp only[a2l,z0a] at h; subst h; exact DenL.nil ρ
 | cons x r ih =>
  simp only[a2l] at h
  split at h
  ·rename_i v ws hv hws
   simp only[z0a] at h
   subst h
   exact DenL.cons (f7 hG hv (hs.sub (by simp)) hc) (ih hws (hs.sub fun y hy=>z0w _ hy))
  ·cases h
theorem a0v {xs:List (Nat × Operand)} {vs:List (Nat × SV)} (hG:GlobOk T ρ) (h:a0u T sl c xs=some vs) (hs:OpsOk ρ sl a (xs.map (·.2))) (hc:sat a c) :
  vs.map (·.1)=xs.map (·.1)∧DenL ρ (vs.map (·.2)) (xs.map fun p=>a.eval p.2):=by
 induction xs generalizing vs with
 | nil=>simp only[a0u,z0a] at h; subst h; exact⟨rfl,DenL.nil ρ⟩
 | cons x r ih =>
  obtain⟨k,x⟩:=x
  simp only[a0u] at h
  split at h
  ·rename_i v ws hv hws
   simp only[z0a] at h
   subst h
   obtain⟨h1,h2⟩:=ih hws (hs.sub fun y hy=>by simp only[z2b]; exact z0w _ hy)
   exact⟨by simp[h1],DenL.cons (f7 hG hv (hs.sub (by simp)) hc) h2⟩
  ·cases h
theorem a4m {v:SV} {cs:List SV} {x:Value} (h:cellsOf v=some cs) (hd:Den ρ v x):∃ vs,x.cells=vs.toArray∧DenL ρ cs vs:=by
 unfold cellsOf at h
 split at h
 ·simp only[z0a] at h
  subst h
  obtain⟨vs,rfl,hvs⟩:=hd.agg_inv
  exact⟨vs,rfl,hvs⟩
 ·cases ho:a7o v
  ·simp[ho] at h
  ·simp only[ho,z0f,z0a] at h
   subst h
   refine⟨[x],?_,DenL.cons hd (DenL.nil ρ)⟩
   cases hd <;> first | rfl | simp[a7o] at ho
def OpTo (P:Program) (a:Act) (o:Oper) (W:World) (R:Value→World→Prop):Prop:=
 match(execOp a.eval o).run P W with
 | .ok (.value v) W'=>R v W'
 | .ok .skip W'=>R undef W'
 | .ok (.enter f args) W'=>Calls P f args W' (fun e W''=>∃ v,e=.returned v∧R v W'')
 | _=>False
theorem OpTo.mono {o:Oper} {W:World} {R R':Value→World→Prop} (h:OpTo P a o W R) (hr:∀ v w,R v w→R' v w):OpTo P a o W R':=by
 unfold OpTo at *
 split at h
 ·exact hr _ _ h
 ·exact hr _ _ h
 ·exact Calls.mono h fun e w ⟨v,he,hv⟩=>⟨v,he,hr _ _ hv⟩
 ·cases h
theorem OpTo.wp {o:Oper} {W:World} {R:Value→World→Prop} {K:Act→World→Prop} {Q:Exit→Act→World→Prop} (h:OpTo P a o W R) (hk:∀ v W',R v W'→K (a.put o.dst v) W'):o.wp P a W K Q:=by
 unfold OpTo at h
 unfold Oper.wp
 generalize (execOp a.eval o).run P W=r at *
 cases r with
 | ok n W' =>
  cases n <;> simp only[Oper.upon] at h ⊢
  case value v=>exact hk _ _ h
  case skip=>exact hk _ _ h
  case enter f args=>exact Calls.mono h fun e w ⟨v,he,hv⟩=>by subst he; exact hk _ _ hv
 | halt x W'=>cases h
theorem OpTo.value {o:Oper} {W W':World} {R:Value→World→Prop} {v:Value} (h:(execOp a.eval o).run P W=.ok (.value v) W') (hr:R v W'):OpTo P a o W R:=by
 unfold OpTo; rw[h]; exact hr
variable {W:World} {m:List MBlk}
theorem StepPost.same {base:Nat} {sv:SV} {v:Value} (h:Den ρ sv v):StepPost ρ W base sv [] v W:=
 ⟨Below.refl _ _,ρ,fun _ _=>rfl,.refl _ _ _,h,.nil _ _ _ _⟩
def Env.with (ρ:Env) (r:Nat) (x:Option Addr × Nat):Env:=⟨fun s=>if s=r then some x else ρ s,ρ.S,ρ.T,ρ.X⟩
theorem SGrow.with (ρ:Env) (r:Nat) (x:Option Addr × Nat) (W W':World):SGrow ρ (ρ.with r x) W W':=⟨fun _ h=>h,fun _ h=>.inl h,fun _ h=>h,fun _ h=>.inl h,rfl⟩
theorem Env.with_R (ρ:Env) (r:Nat) (x:Option Addr × Nat):(ρ.with r x).R=ρ.R:=rfl
theorem Env.with_same (ρ:Env) (r:Nat) (x:Option Addr × Nat):(ρ.with r x) r=some x:=by simp[Env.with]
theorem Env.with_ne (ρ:Env) {r s:Nat} (x:Option Addr × Nat) (h:s≠r):(ρ.with r x) s=ρ s:=by simp[Env.with,h]
theorem Env.with_le {ρ:Env} {r:Nat} {x:Option Addr × Nat} (h:ρ r=none):∀ s y,ρ s=some y→(ρ.with r x) s=some y:=fun s y hs=>by
 by_cases e:s=r
 ·subst e; rw[h] at hs; cases hs
 ·rw[Env.with_ne _ _ e]; exact hs
theorem StepPost.one {base:Nat} {sv:SV} {v:Value} {W':World} {k:MBlk} {x:Option Addr × Nat} (hb:Below W.heap.size W W') (hd:Den (ρ.with base x) sv v) (hk:BR (ρ.with base x) W' base k)
  (hf:∀ a,x.1=some a→l7 k=true→W.heap.size≤a.block):StepPost ρ W base sv [k] v W':=by
 refine⟨hb,ρ.with base x,fun r hr=>?_,.with _ _ _ _ _,hd,⟨fun j b hj _=>?_,fun j b a c hj ho hx=>?_,fun j l b d a c x y hj hl _ _ _ _ _=>?_⟩⟩
 ·rw[Env.with_ne]
  intro e
  simp at hr
  omega
 ·have:j=0:=by have:=(z0c.1 hj).1; simpa using this
  subst this
  simp at hj
  subst hj
  exact hk
 ·have:j=0:=by have:=(z0c.1 hj).1; simpa using this
  subst this
  simp at hj
  subst hj
  simp only[z1i,Env.with_same,z0a] at hx
  exact hf a (by rw[hx]) ho
 ·have h1:=(z0c.1 hj).1
  have h2:=(z0c.1 hl).1
  simp at h1 h2
  omega
theorem StepPost.cells {base:Nat} {cs:List SV} {vs:List Value} {t:Nat} (hS:∀ g,ρ.S g→g < W.heap.size) (hf:ρ base=none) (h:DenL ρ cs vs) :
  StepPost ρ W base (.ptr base 0) [.cells cs] (.pointer (some ⟨W.heap.size,0,none⟩)) (W.alloc (.cells vs.toArray t)):=by
 refine StepPost.one (x:=(some ⟨W.heap.size,0,none⟩,0)) ((Below.refl _ _).alloc (z0q _) _) ?_ ?_ ?_
 ·have:=Den.ptr (ρ:=ρ.with base (some ⟨W.heap.size,0,none⟩,0)) (off:=0) (Env.with_same ρ base _)
  simpa [Addr.add] using this
 ·exact⟨W.heap.size,t,vs,0,Env.with_same ρ base _,fun h=>absurd (hS _ h) (z1k _),heap_alloc_new _ _,h.mono (Env.with_le hf)⟩
 ·intro a ha _
  simp only[z0a] at ha
  subst ha
  exact z0q _
end
section
variable {P:Program} {t:Nat} {ti:TI}
theorem s4 (h:a0t P t ti=true):∃ i,P.info? t=some i∧i.size=ti.size∧i.bytes=ti.bytes∧(ti.zero≠[]→∃ z,i.zero=some z∧∀ ρ,DenL ρ ti.zero z.cells.toList):=by
 unfold a0t at h
 rw[z0d] at h
 have h1:=h.1
 cases hi:P.info? t with
 | none=>simp[hi] at h1
 | some i =>
  simp only[hi,z0d] at h1
  obtain⟨⟨h2,h3⟩,h4⟩:=h1
  refine⟨i,rfl,z0b h2,z0b h3,fun hne=>?_⟩
  cases hz:ti.zero with
  | nil=>exact absurd hz hne
  | cons z0 zs =>
   rw[hz] at h4
   simp only at h4
   cases hv:i.zero with
   | none=>simp[hv] at h4
   | some v =>
    simp only[hv] at h4
    exact⟨v,rfl,fun ρ=>c54 ρ h4⟩
theorem a36 (h:a0t P t ti=true) (hk:ti.kind=1):∃ fs,P.underlying t=some (.struct fs)∧fs.toList.mapM (fun f=>(P.info? f.type).map fun i=>(f.offset,i.size))=some ti.offs:=by
 unfold a0t at h
 rw[z0d] at h
 have h2:=h.2
 cases hu:P.underlying t with
 | none=>simp[hu] at h2
 | some d =>
  rw[hu] at h2
  cases d <;> simp[hk] at h2
  case struct fs =>
   obtain⟨h3,_⟩:=h2
   refine⟨fs,rfl,?_⟩
   split at h3
   ·rename_i l hl
    rw[hl,z0e h3]
   ·cases h3
theorem a9q (h:a0t P t ti=true) {ks:List (Option IntKind)} (hk:ti.eqk=some ks):P.eqGuardType P.depth t=false ∧
  ((∃ fs,P.underlying t=some (.struct fs)∧P.stoodInHeld t=false∧z7 P fs.toList ks 0=true)∨(∃ n e,P.underlying t=some (.array n e)∧a2j P e ks=true∧ks.length=n∧ks≠[])):=by
 unfold a0t at h
 rw[z0d] at h
 have h2:=h.2
 cases hu:P.underlying t with
 | none=>simp[hu] at h2
 | some d =>
  rw[hu] at h2
  cases d <;> simp[hk] at h2
  case struct fs=>exact⟨h2.2.1.2,.inl ⟨fs,rfl,h2.2.1.1,h2.2.2⟩⟩
  case array n e=>exact⟨h2.2.1.1.1,.inr ⟨n,e,rfl,h2.2.1.1.2,h2.2.1.2,h2.2.2⟩⟩
theorem a3u (h:a0t P t ti=true) (hk:ti.kind=2):P.underlying t=some (.array ti.len ti.elem):=by
 unfold a0t at h
 rw[z0d] at h
 have h2:=h.2
 cases hu:P.underlying t with
 | none=>simp[hu] at h2
 | some d =>
  rw[hu] at h2
  cases d <;> simp[hk] at h2
  case array n e=>rw[h2.1.1,h2.1.2]
theorem q6 (h:a0t P t ti=true) (hk:ti.kind=3):P.underlying t=some (.slice ti.elem)∧(P.info? ti.elem).map (·.size)=some ti.len:=by
 unfold a0t at h
 rw[z0d] at h
 have h2:=h.2
 cases hu:P.underlying t with
 | none=>simp[hu] at h2
 | some d =>
  rw[hu] at h2
  cases d <;> simp[hk] at h2
  case slice e =>
   obtain⟨⟨_,rfl⟩,h3⟩:=h2
   exact⟨rfl,by simpa using h3⟩
theorem b60 (h:a0t P t ti=true) (hk:ti.kind=6):P.underlying t=some .string:=by
 unfold a0t at h
 rw[z0d] at h
 have h2:=h.2
 cases hu:P.underlying t with
 | none=>simp[hu] at h2
 | some d=>cases d <;> simp[hu,hk] at h2 <;> rfl
theorem a5p (h:a0t P t ti=true) (w:World):(isAgg t).run P w=.ok (Nat.beq ti.kind 1 || Nat.beq ti.kind 2) w:=by
 unfold a0t at h
 rw[z0d] at h
 have h2:=h.2
 cases hu:P.underlying t with
 | none=>simp[hu] at h2
 | some d =>
  rw[hu] at h2
  cases d <;> simp at h2 <;> simp[isAgg,run_underlying hu,h2,Nat.beq]
theorem c1r (h:a0t P t ti=true):(∃ d,P.underlying t=some d):=by
 unfold a0t at h
 rw[z0d] at h
 have h2:=h.2
 cases hu:P.underlying t with
 | none=>simp[hu] at h2
 | some d=>exact⟨d,rfl⟩
theorem a5q (h:a0t P t ti=true) (hk:ti.kind=4):P.underlying t=some (.map ti.elem ti.len):=by
 unfold a0t at h
 rw[z0d] at h
 have h2:=h.2
 cases hu:P.underlying t with
 | none=>simp[hu] at h2
 | some d =>
  cases d <;> simp[hu,hk] at h2
  rename_i k e
  obtain⟨⟨_,h3⟩,h4⟩:=h2
  rw[h3,h4]
theorem a6w (h:a5w P t ti=true) {k:IntKind} (hk:ti.ik=some k) (W:World):(zeroValue t).run P W=.ok (.int k 0) W:=by
 unfold a5w at h
 rw[z0d,z0d] at h
 replace h:=h.1.1
 rw[hk] at h
 simp only at h
 split at h
 ·rename_i i hi
  split at h
  ·rename_i q hz
   obtain rfl:=u4.1 h
   simp[zeroValue,typeInfo,hi,hz]
  ·cases h
 ·cases h
theorem b12 (h:a5w P t ti=true) (hk:ti.kind=5) (W:World):(zeroValue t).run P W=.ok (.bool false) W:=by
 unfold a5w at h
 rw[z0d] at h
 replace h:=h.2
 rw[hk] at h
 simp only[z2g,z0f] at h
 split at h
 ·rename_i i hi
  split at h
  ·rename_i hz
   simp[zeroValue,typeInfo,hi,hz]
  ·cases h
 ·cases h
theorem b87 (h:a5w P t ti=true) (hk:ti.fagg≠[]):∃ fs,P.underlying t=some (.struct fs)∧a93 P fs.toList ti.fagg=true:=by
 unfold a5w at h
 rw[z0d,z0d] at h
 replace h:=h.1.2
 split at h
 ·rename_i e; exact absurd e hk
 ·split at h
  ·rename_i fs hu
   exact⟨fs,hu,h⟩
  ·cases h
theorem b82 {fs:List Field} {l:List Bool} (h:a93 P fs l=true):∀(k:Nat) (f:Field) (b:Bool),fs[k]?=some f→l[k]?=some b→∀ w:World,(isAgg f.type).run P w=.ok b w:=by
 induction fs generalizing l with
 | nil=>intro k f b hf; simp at hf
 | cons x r ih =>
  intro k f b hf hb w
  cases l with
  | nil=>simp at hb
  | cons y l =>
   simp only[a93,z0d] at h
   cases k with
   | zero =>
    simp at hf hb
    subst hf hb
    have h1:=h.1
    cases hu:P.underlying x.type with
    | none=>simp[hu] at h1
    | some d =>
     rw[hu] at h1
     cases d <;> simp at h1 <;> simp[isAgg,run_underlying hu,h1]
   | succ k=>exact ih h.2 k f b (by simpa using hf) (by simpa using hb) w
theorem b49 (h:a0t P t ti=true) {k:IntKind} (hk:ti.ik=some k) (h0:ti.kind=0):P.underlying t=some (.int k):=by
 unfold a0t at h
 rw[z0d] at h
 have h2:=h.2
 cases hu:P.underlying t with
 | none=>simp[hu] at h2
 | some d =>
  rw[hu] at h2
  cases d <;> simp[hk,h0,u4] at h2
  case int k'=>rw[h2.2]
theorem c1q (h:a0t P t ti=true) (h0:ti.kind=5):P.underlying t=some .bool:=by
 unfold a0t at h
 rw[z0d] at h
 have h2:=h.2
 cases hu:P.underlying t with
 | none=>simp[hu] at h2
 | some d =>
  rw[hu] at h2
  cases d <;> simp[h0] at h2
  rfl
end
end Go.Proofs.YtaeeaniofljmnaaGreatDoor.Sx

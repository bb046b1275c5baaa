/-
  A part of the proof (Yx8).
-/
import Derived.Test.YtaeeaniofljmnaaGreatDoorYx6
namespace Go.Proofs.YtaeeaniofljmnaaGreatDoor.Sx
set_option linter.unusedSimpArgs false
set_option linter.unusedVariables false
open Go Go.RowKit
section
variable {P:Program} {T:Tab} {ρ σ:Env} {sl:List Slot} {a:Act} {c:List (Nat × Bool)} {B:Lim} {W w0:World} {m:List MBlk} {o:Oper}
def c40 (D:Nat):Deferred:={ target:=.collected D,args:=#[] }
def DfOk (B:Lim) (ρ:Env) (a:Act) (W:World):Prop:=∃ Ds:List Nat,a.defers=Ds.map c40∧Ds.Nodup∧∀ D∈Ds,ρ.S D∧¬ B.keep D∧W.heap[D]?=some (.deferred (some []))
theorem DfOk.nil {B:Lim} {ρ:Env} {a:Act} {W:World} (h:a.defers=[]):DfOk B ρ a W:=⟨[],h,List.nodup_nil,fun D hD=>by cases hD⟩
theorem DfOk.step {B:Lim} {ρ σ:Env} {a a':Act} {W W':World} (h:DfOk B ρ a W) (ha:a'.defers=a.defers) (hS:∀ g,ρ.S g→σ.S g) (hW:∀ g,ρ.S g→W'.heap[g]?=W.heap[g]?):DfOk B σ a' W':=by
 obtain⟨Ds,h1,h2,h3⟩:=h
 exact⟨Ds,ha.trans h1,h2,fun D hD=>by obtain⟨q1,q2,q3⟩:=h3 D hD; exact⟨hS D q1,q2,(hW D q1).trans q3⟩⟩
theorem MR.strong {B:Lim} {w0 W:World} {ρ:Env} {m:List MBlk} (h:MR B w0 W ρ m):MR ⟨ρ.S,ρ.R⟩ W W ρ m:=⟨fun _ h=>h,fun _ h=>.inl h,h.hS,.refl _ _,h.blk,h.dom,h.xlt,h.xsep,h.xown,h.sep⟩
theorem MR.back {B:Lim} {w0 W W':World} {ρ σ:Env} {m m':List MBlk} (h:MR B w0 W ρ m) (k:MR ⟨ρ.S,ρ.R⟩ W W' σ m'):MR B w0 W' σ m':=
 ⟨fun g hg=>k.sub g (h.sub g hg),fun g hg=>by
  rcases k.rows g hg with h1 | h1
  ·exact h.rows g h1
  ·exact .inr fun hk=>h1 (h.sub g hk),k.hS,h.below.trans ⟨k.below.os,k.below.tape,k.below.output,k.below.size,fun g hg=>k.below.block g (h.sub g hg)⟩,k.blk,k.dom,k.xlt,k.xsep,k.xown,k.sep⟩
structure FR (ρ:Env) (sl:List Slot) (a:Act):Prop where
 len:sl.length=a.tmps.size
 ok:∀ d s,sl[d]?=some s→SlotOK ρ s a d
structure Rel (T:Tab) (B:Lim) (w0:World) (ρ:Env) (sl:List Slot) (m:List MBlk) (a:Act) (W:World):Prop where
 fr:FR ρ sl a
 mr:MR B w0 W ρ m
 gl:GlobOk T ρ
 df:DfOk B ρ a W
theorem b95 (dst:Option Nat) (v:Value):(a.put dst v).tmps.size=a.tmps.size:=by
 unfold Act.put; cases dst <;> simp
theorem x7 (dst:Option Nat) (v:Value):(a.put dst v).defers=a.defers:=by
 unfold Act.put; cases dst <;> rfl
theorem c78 {d:Nat} {v:Value} (h:d < a.tmps.size):(a.put (some d) v).tmps.getD d undef=v:=by
 simp[Act.put,h]
theorem b5p {dst:Option Nat} {d:Nat} {v:Value} (h:dst≠some d):(a.put dst v).tmps.getD d undef=a.tmps.getD d undef:=by
 cases dst with
 | none=>rfl
 | some e =>
  have:e≠d:=fun e'=>h (by rw[e'])
  simp[Act.put,Array.getElem?_setIfInBounds_ne this]
theorem c2r {dst:Option Nat} {v:Value} (h:∀ d,dst=some d→d ∉ c.map (·.1)):sat (a.put dst v) c↔sat a c:=by
 have key:∀ q w,(q,w)∈c→(a.put dst v).tmps.getD q undef=a.tmps.getD q undef:=fun q w hq=>b5p (fun e=>h q e (z2h.2 ⟨_,hq,rfl⟩))
 exact⟨fun hs q w hq=>by rw[← key q w hq]; exact hs q w hq,fun hs q w hq=>by rw[key q w hq]; exact hs q w hq⟩
theorem b0z {dst:Option Nat} (h:s8 dst sl=true) {e:Nat} {s:Slot} (hs:sl[e]?=some s):∀ d,dst=some d→d ∉ s.ch.map (·.1):=by
 induction sl generalizing e with
 | nil=>simp at hs
 | cons x r ih =>
  simp only[s8,z0d] at h
  cases e with
  | zero =>
   simp at hs
   subst hs
   intro d hd
   subst hd
   exact b2j.1 h.1
  | succ e=>exact ih h.2 (by simpa using hs)
theorem SlotOK.mono {s:Slot} {d:Nat} (h:SlotOK ρ s a d) (hle:∀ r y,ρ r=some y→σ r=some y):SlotOK σ s a d:=⟨fun hs=>(h.1 hs).mono hle,h.2⟩
theorem SlotOK.put {s:Slot} {d:Nat} {dst:Option Nat} {v:Value} (h:SlotOK ρ s a d) (hd:dst≠some d) (hf:∀ e,dst=some e→e ∉ s.ch.map (·.1)):SlotOK ρ s (a.put dst v) d:=by
 unfold SlotOK
 rw[c2r hf,b5p hd]
 exact h
theorem SlotOK.new {sv:SV} {d:Nat} {v:Value} (hlt:d < a.tmps.size) (hf:d ∉ c.map (·.1)) (h:(sat a c∧Den σ sv v)∨((¬ sat a c∨(c=[]∧sv=.dead))∧v=undef)):SlotOK σ ⟨c,sv⟩ (a.put (some d) v) d:=by
 unfold SlotOK
 simp only
 rw[c2r (fun e he=>by simp only[z0a] at he; subst he; exact hf),c78 hlt]
 rcases h with⟨h1,h2⟩ | ⟨h1,rfl⟩
 ·exact⟨fun _=>h2,fun h=>absurd h1 h⟩
 ·rcases h1 with h1 | ⟨rfl,rfl⟩
  ·exact⟨fun h=>absurd h h1,fun _=>rfl⟩
  ·exact⟨fun _=>.dead _,fun _=>rfl⟩
theorem FR.put {sl':List Slot} {dst:Option Nat} {sv:SV} {v:Value} (h:FR ρ sl a) (hle:∀ r y,ρ r=some y→σ r=some y) (hp:a58 sl dst ⟨c,sv⟩=some sl') (hf:s8 dst sl=true) (hc:∀ d,dst=some d→d ∉ c.map (·.1))
  (hv:(sat a c∧Den σ sv v)∨((¬ sat a c∨(c=[]∧sv=.dead))∧v=undef)):FR σ sl' (a.put dst v):=by
 obtain⟨h1,h2,h3⟩:=a2t hp
 refine⟨by rw[h1,b95]; exact h.len,fun d s hs=>?_⟩
 rw[h3 d] at hs
 by_cases e:dst=some d
 ·rw[if_pos e] at hs
  simp only[z0a] at hs
  subst hs
  subst e
  exact SlotOK.new (by rw[← h.len]; exact h2 d rfl) (hc d rfl) hv
 ·rw[if_neg e] at hs
  exact((h.ok d s hs).mono hle).put e (b0z hf hs)
theorem c3g (sl:List Slot) (d:Nat):(clean sl)[d]?=(sl[d]?).map a9v:=by
 induction sl generalizing d with
 | nil=>simp[clean]
 | cons s r ih=>cases d <;> simp[clean,ih]
theorem b6s (sl:List Slot):(clean sl).length=sl.length:=by
 induction sl with
 | nil=>rfl
 | cons s r ih=>simp[clean,ih]
theorem FR.clean (h:FR ρ sl a):FR ρ (Sx.clean sl) a:=by
 refine⟨by rw[b6s]; exact h.len,fun d s hs=>?_⟩
 rw[c3g,z0h] at hs
 obtain⟨s0,h0,rfl⟩:=hs
 have:=h.ok d s0 h0
 unfold a9v
 split
 ·exact this
 ·exact⟨fun _=>.dead _,fun hn=>absurd (fun q w hq=>by cases hq) hn⟩
theorem b4j (l:List Nat) (sl:List Slot) (d:Nat):(a15 l sl)[d]?=(sl[d]?).map (fun s=>⟨s.ch,a3w l s.sv⟩):=by
 induction sl generalizing d with
 | nil=>simp[a15]
 | cons s r ih=>cases d <;> simp[a15,ih]
theorem b05 (l:List Nat) (sl:List Slot):(a15 l sl).length=sl.length:=by
 induction sl with
 | nil=>rfl
 | cons s r ih=>simp[a15,ih]
theorem FR.kill {l:List Nat} (h:FR ρ sl a) (hle:∀ r y,r ∉ l→ρ r=some y→σ r=some y):FR σ (a15 l sl) a:=by
 refine⟨by rw[b05]; exact h.len,fun d s hs=>?_⟩
 rw[b4j,z0h] at hs
 obtain⟨s0,h0,rfl⟩:=hs
 have:=h.ok d s0 h0
 exact⟨fun hsat=>(this.1 hsat).kill hle,this.2⟩
theorem a90 {l:List Nat} {dst:Option Nat} (h:s8 dst sl=true):s8 dst (a15 l sl)=true:=by
 induction sl with
 | nil=>rfl
 | cons s r ih =>
  simp only[a15,s8,z0d] at h ⊢
  exact⟨h.1,ih h.2⟩
theorem GlobOk.mono (h:GlobOk T ρ) (hle:∀ r y,ρ r=some y→σ r=some y):GlobOk T σ:=⟨fun g r hr=>by
 obtain⟨c,hc⟩:=h.gl g r hr
 exact⟨c,hle _ _ hc⟩,fun p hp=>hle _ _ (h.pin p hp)⟩
theorem a96 {l:List Nat} {g:List Nat} (h:a1t l g=true) {x:Nat} (hx:x∈g):x ∉ l:=by
 induction g with
 | nil=>cases hx
 | cons y r ih =>
  simp only[a1t,z0d,z0x] at h
  rcases z0s.1 hx with rfl | hx
  ·intro hm; rw[a0s.2 hm] at h; exact absurd h.1 (by simp)
  ·exact ih h.2 hx
theorem GlobOk.kill {l:List Nat} (h:GlobOk T ρ) (hf:a1t l (a0z T)=true) (hle:∀ r y,r ∉ l→ρ r=some y→σ r=some y):GlobOk T σ:=⟨fun g r hr=>by
 obtain⟨c,hc⟩:=h.gl g r hr
 exact⟨c,hle _ _ (a96 hf (a46 hr)) hc⟩,fun p hp=>hle _ _ (a96 hf (a5i hp)) (h.pin p hp)⟩
theorem b1t {ops:Array Oper} {Q:Exit→Act→World→Prop} {K:Act→World→Prop} {ps:List Prop} {sl':List Slot} {m':List MBlk} (hT:TabOk P T) (hr:Rel T B w0 ρ sl m a W)
  (h:opA T ops.toList sl m o=some (ps,sl',m')) (hp:∀ p∈ps,p) (hK:∀ ρ a W,Rel T B w0 ρ sl' m' a W→K a W) :
  if Region.wanted o (yielded ops a.tmps) then o.wp P a W K Q else K (a.put o.dst undef) W:=by
 obtain⟨c,sv,new,rfl,hput,_,hdc,hdf,h1,h2⟩:=b8u (P:=P) (W:=W) hT hr.gl hr.mr.hS hr.mr.blk hr.fr.len (fun t _ s hs=>hr.fr.ok t s hs)
  (fun r hr1 _=>Classical.byContradiction fun hne=>by have:=hr.mr.dom r hne; omega) h hp
 split
 ·rename_i hw
  obtain⟨hsat,hop⟩:=h1 hw
  refine hop.wp fun v W' hv=>?_
  obtain⟨hb,σ,hσ,hsg,hd,hn⟩:=hv
  have hmr:=hr.mr.grow hb hσ hsg hn
  have hle:∀ r y,ρ r=some y→σ r=some y:=fun r y hy=>by
   rw[hσ r (.inl (hr.mr.dom r (by rw[hy]; simp)))]; exact hy
  exact hK σ _ _ ⟨hr.fr.put hle hput hdf hdc (.inl ⟨hsat,hd⟩),hmr,hr.gl.mono hle,hr.df.step (x7 _ _) hsg.le (fun g hg=>hb.block g (hr.mr.hS g hg))⟩
 ·rename_i hw
  have hw:=z0z.2 hw
  have hmr:MR B w0 W ρ (m ++ new):=hr.mr.grow (Below.refl _ _) (fun _ _=>rfl) (.refl _ _ _) ⟨fun k b _ hne=>absurd (hr.mr.dom _ hne) (by omega),fun k b a c _ _ hx=>absurd (hr.mr.dom _ (by rw[hx]; simp)) (by omega),fun k l b d a c x y _ _ _ _ hx=>absurd (hr.mr.dom _ (by rw[hx]; simp)) (by omega)⟩
  exact hK ρ _ _ ⟨hr.fr.put (fun _ _ h=>h) hput hdf hdc (.inr ⟨h2 hw,rfl⟩),hmr,hr.gl,hr.df.step (x7 _ _) (fun _ h=>h) (fun _ _=>rfl)⟩
theorem b1u {ops:Array Oper} {Q:Exit→Act→World→Prop} {K:Act→World→Prop} {ps:List Prop} {sl':List Slot} {m':List MBlk} {ds:List Nat} (hT:TabOk P T) (hr:Rel T B w0 ρ sl m a W)
  (h:opB T ops.toList sl m o=some (ps,sl',m',ds)) (hp:∀ p∈ps,p) (hK:∀ ρ a W,Rel T B w0 ρ sl' m' a W→K a W) :
  if Region.wanted o (yielded ops a.tmps) then o.wp P a W K Q else K (a.put o.dst undef) W:=by
 unfold opB at h
 split at h
 ·rename_i hg
  rw[if_pos ((a8g hr.fr.len (fun _ _ _ d s _ _ _ hsd=>hr.fr.ok d s hsd) hg).2 (fun q w hq=>by cases hq))]
  cases hdf:s8 o.dst sl
  ·simp[hdf] at h
  ·simp only[hdf,z0f] at h
   split at h
   ·rename_i b hb
    cases hgf:a1t b.kill (a0z T)
    ·simp[hgf] at h
    ·simp only[hgf,z0f] at h
     split at h
     ·rename_i sl1 hput
      simp only[z0a,z0g] at h
      obtain⟨rfl,rfl,rfl,rfl⟩:=h
      have hop:=b17 (P:=P) (a:=a) hT hr.gl hr.mr.strong (fun t s _ hn hsat=>by rw[t0] at hn; exact(hr.fr.ok t s hn).1 hsat) hb hp
      refine hop.wp fun v W' hv=>?_
      obtain⟨σ,hσ,hd,hmr⟩:=hv
      rw[← a9s] at hmr
      exact hK σ _ _ ⟨(hr.fr.kill hσ).put (fun _ _ h=>h) hput (a90 hdf) (fun d _=>by simp) (.inl ⟨(fun q w hq=>by cases hq),hd⟩),hr.mr.back hmr,hr.gl.kill hgf hσ,hr.df.step (x7 _ _) hmr.sub hmr.below.block⟩
     ·cases h
   ·cases h
 ·cases h
theorem a0m {ps:List Prop} {p:Prop}:a5v ps p↔(∀ q∈ps,q)∧p:=by
 induction ps with
 | nil=>simp[a5v]
 | cons x r ih =>
  simp only[a5v,ih]
  constructor
  ·rintro ⟨h1,h2,h3⟩
   exact⟨fun q hq=>by rcases z0s.1 hq with rfl | hq; exact h1; exact h2 q hq,h3⟩
  ·rintro ⟨h1,h2⟩
   exact⟨h1 x (by simp),fun q hq=>h1 q (z0w _ hq),h2⟩
theorem a7c {ops:Array Oper} {Q:Exit→Act→World→Prop} (hT:TabOk P T):∀(l:List Oper) (s s':St) (ps:List Prop) (ρ:Env) (a:Act) (W:World),a9n T ops.toList l s=some (ps,s')→(∀ p∈ps,p)→Rel T B w0 ρ s.slots s.mem a W →
  (∀ ρ a W,Rel T B w0 ρ s'.slots s'.mem a W→Q .normal a W)→wpList P ops Q l a W:=by
 intro l
 induction l with
 | nil =>
  intro s s' ps ρ a W h _ hr hQ
  simp only[a9n,z0a,z0g] at h
  obtain⟨rfl,rfl⟩:=h
  exact hQ ρ a W ⟨hr.fr.clean,hr.mr,hr.gl,hr.df⟩
 | cons o l ih =>
  intro s s' ps ρ a W h hp hr hQ
  simp only[a9n] at h
  split at h
  ·rename_i ps1 sl1 m1 hA
   split at h
   ·rename_i qs s1 hrest
    simp only[z0a,z0g] at h
    obtain⟨rfl,rfl⟩:=h
    exact wpList_step fun K hK=>b1t hT hr hA (fun p h=>hp p (z0n.2 (.inl h))) fun ρ a W hr'=>hK _ _ (ih _ _ _ ρ a W hrest (fun p h=>hp p (z0n.2 (.inr h))) hr' hQ)
   ·cases h
  ·split at h
   ·rename_i ps1 sl1 m1 ds hB
    split at h
    ·rename_i qs s1 hrest
     simp only[z0a,z0g] at h
     obtain⟨rfl,rfl⟩:=h
     exact wpList_step fun K hK=>b1u hT hr hB (fun p h=>hp p (z0n.2 (.inl h))) fun ρ a W hr'=>hK _ _ (ih _ _ _ ρ a W hrest (fun p h=>hp p (z0n.2 (.inr h))) hr' hQ)
    ·cases h
   ·cases h
theorem c1a {id:Nat} {ops:Array Oper} {Q:Exit→Act→World→Prop} {s s':St} {ps:List Prop} (hT:TabOk P T) (h:a9n T ops.toList ops.toList s=some (ps,s')) (hp:∀ p∈ps,p) (hr:Rel T B w0 ρ s.slots s.mem a W)
  (hQ:∀ ρ a W,Rel T B w0 ρ s'.slots s'.mem a W→Q .normal a W):(Code.region id ops false).wp P Q a W:=
 wp_region_list (a7c hT _ _ _ _ ρ a W h hp hr hQ)
theorem b6t (sl:List Slot):(a82 sl).length=sl.length:=by
 induction sl with
 | nil=>rfl
 | cons s r ih=>simp[a82,ih]
def svOf (s:Slot):SV:=match s.ch with | []=>s.sv | _=>.dead
theorem c3i (sl:List Slot) (d:Nat):(a82 sl)[d]?=(sl[d]?).map svOf:=by
 induction sl generalizing d with
 | nil=>simp[a82]
 | cons s r ih =>
  cases d with
  | zero=>rfl
  | succ d=>simp[a82,ih]
theorem b38 (xs:List SV):(a11 xs).length=xs.length:=by
 induction xs with
 | nil=>rfl
 | cons s r ih=>simp[a11,ih]
theorem b83 (xs:List SV) (d:Nat):(a11 xs)[d]?=(xs[d]?).map (fun x=>⟨[],x⟩):=by
 induction xs generalizing d with
 | nil=>simp[a11]
 | cons s r ih=>cases d <;> simp[a11,ih]
theorem b10 (t:Array Value) {d:Nat} (h:d < t.size):t.toList[d]?=some (t.getD d undef):=by
 simp[Array.getD,h]
theorem FR.svs (h:FR ρ sl a):DenL ρ (a82 sl) a.tmps.toList:=by
 refine⟨by rw[b6t,h.len]; simp,fun j x v hx hv=>?_⟩
 rw[c3i,z0h] at hx
 obtain⟨s,hs,rfl⟩:=hx
 have hj:j < a.tmps.size:=by rw[← h.len]; exact(z0c.1 hs).1
 rw[b10 _ hj] at hv
 simp only[z0a] at hv
 subst hv
 have:=h.ok j s hs
 unfold svOf
 split
 ·rename_i hc
  exact this.1 (by rw[hc]; exact fun q w hq=>by cases hq)
 ·exact .dead _
theorem FR.of_svs {cs:List SV} (h:DenL ρ cs a.tmps.toList):FR ρ (a11 cs) a:=by
 refine⟨by rw[b38,← h.1]; simp,fun d s hs=>?_⟩
 rw[b83,z0h] at hs
 obtain⟨x,hx,rfl⟩:=hs
 have hd:d < a.tmps.size:=by have:=(z0c.1 hx).1; have h1:=h.1; simp at h1; omega
 exact⟨fun _=>h.2 d x _ hx (b10 _ hd),fun hn=>absurd (fun q w hq=>by cases hq) hn⟩
theorem b1a (dst:Option Nat) (cs:List SV):s8 dst (a11 cs)=true:=by
 induction cs with
 | nil=>rfl
 | cons x r ih=>cases dst <;> simp[a11,s8,a8a,ih]
theorem MR.stk {cs:List SV} {vs:List Value} (h:MR B w0 W ρ m) (hd:DenL ρ cs vs):MR B w0 W (ρ.with m.length (none,0)) (m ++ [.stk cs vs]):=by
 have hn:ρ m.length=none:=Classical.byContradiction fun hne=>by have:=h.dom _ hne; omega
 refine h.grow (Below.refl _ _) (fun r hr=>Env.with_ne _ _ (fun e=>by subst e; simp at hr; omega)) (.with _ _ _ _ _) ⟨fun k b hk _=>?_,fun k b a c hk ho hs=>?_,fun k l b d a c x y hk hl ho=>?_⟩
 ·have hk0:k=0:=by have:=(z0c.1 hk).1; simpa using this
  subst hk0
  simp at hk
  subst hk
  exact hd.mono (Env.with_le hn)
 ·have hk0:k=0:=by have:=(z0c.1 hk).1; simpa using this
  subst hk0
  simp at hk
  subst hk
  cases ho
 ·have hk0:k=0:=by have:=(z0c.1 hk).1; simpa using this
  subst hk0
  simp at hk
  subst hk
  cases ho
theorem MR.drop {r:Nat} (h:MR B w0 W ρ m):MR B w0 W ρ (i4 m r .gone):=by
 have key:∀ {i:Nat} {k:MBlk},(i4 m r .gone)[i]?=some k→k=.gone∨m[i]?=some k:=fun {i k} hk=>by
  rw[j7] at hk
  split at hk
  ·simp only[z0a] at hk; exact .inl hk.symm
  ·exact .inr hk
 refine⟨h.sub,h.rows,h.hS,h.below,fun i k hk hne=>?_,fun i hi=>by rw[d8]; exact h.dom i hi,fun i g hx=>by rw[d8]; exact h.xlt i g hx,h.xsep,fun i g s k a c hx hk ho hs=>?_,fun i j k l a b c d hk hl h1 h2 h3 h4 h5=>?_⟩
 ·rcases key hk with rfl | hk
  ·trivial
  ·exact h.blk i k hk hne
 ·rcases key hk with rfl | hk
  ·cases ho
  ·exact h.xown i g s k a c hx hk ho hs
 ·rcases key hk with rfl | hk
  ·cases h1
  ·rcases key hl with rfl | hl
   ·cases h2
   ·exact h.sep i j k l a b c d hk hl h1 h2 h3 h4 h5
end
theorem b4y {acc:List Nat} {es:List Edge} {k:Nat}:Nat.testBit (a7r acc es) k=true↔∃ e∈es,Region.binds .any e=true∧(k=e.on∨∃ x,acc[e.on]?=some x∧Nat.testBit x k=true):=by
 induction es with
 | nil=>simp[a7r]
 | cons e r ih =>
  simp only[a7r]
  cases hb:Region.binds .any e
  ·simp only[z0m,ih,z0s,exists_eq_or_imp,hb,z2s,false_and,false_or]
  ·simp only[z0f,Nat.testBit_or,z1r,ih,z0s,exists_eq_or_imp,hb,true_and,t0]
   have h1:Nat.testBit (1 <<< e.on) k=true↔k=e.on:=by
    rw[Nat.one_shiftLeft,Nat.testBit_two_pow]
    simp[eq_comm]
   rw[h1]
   cases hx:acc[e.on]? with
   | none=>simp
   | some x=>simp
theorem x9:∀(l:List Oper) (acc:List Nat),(u5 l acc).length=acc.length + l.length∧(∀ j,j < acc.length→(u5 l acc)[j]?=acc[j]?) ∧
  ∀(i:Nat) (o:Oper),l[i]?=some o→(u5 l acc)[acc.length + i]?=some (a7r ((u5 l acc).take (acc.length + i)) o.after.toList):=by
 intro l
 induction l with
 | nil=>intro acc; simp[u5]
 | cons o l ih =>
  intro acc
  simp only[u5]
  obtain⟨h1,h2,h3⟩:=ih (acc ++ [a7r acc o.after.toList])
  have htake:(u5 l (acc ++ [a7r acc o.after.toList])).take acc.length=acc:=by
   apply List.ext_getElem?
   intro j
   rw[z1u]
   split
   ·rename_i hj
    rw[h2 j (by simp; omega),z0t hj]
   ·rename_i hj
    rw[List.getElem?_eq_none (by omega)]
  refine⟨by rw[h1]; simp; omega,fun j hj=>by rw[h2 j (by simp; omega),z0t hj],fun i q hq=>?_⟩
  cases i with
  | zero =>
   simp at hq
   subst hq
   simp only[z1i]
   rw[htake,h2 acc.length (by simp)]
   simp
  | succ i =>
   have:=h3 i q (by simpa using hq)
   simp only[z1b,z1g,z3a,z1d] at this
   rw[show acc.length + (i + 1)=acc.length + 1 + i by omega]
   exact this
theorem a0n {i:Nat} {es:List Edge} (h:a91 i es=true) {e:Edge} (he:e∈es) (hb:Region.binds .any e=true):e.on < i:=by
 induction es with
 | nil=>cases he
 | cons x r ih =>
  simp only[a91,z0d,z1r,z0x,z0u] at h
  rcases z0s.1 he with rfl | he
  ·rcases h.1 with h1 | h1
   ·rw[hb] at h1; cases h1
   ·exact h1
  ·exact ih h.2 he
theorem a0o:∀ {l:List Oper} {i j:Nat} {o:Oper},z8 i l=true→l[j]?=some o→a91 (i + j) o.after.toList=true:=by
 intro l
 induction l with
 | nil=>intro i j o _ h; simp at h
 | cons x r ih =>
  intro i j o h hj
  simp only[z8,z0d] at h
  cases j with
  | zero=>simp at hj; subst hj; exact h.1
  | succ j =>
   have:=ih h.2 (j:=j) (by simpa using hj)
   rwa [show i + 1 + j=i + (j + 1) by omega] at this
theorem b56 {d:Nat} {l:List Oper} (h:c23 d l=false) {j:Nat} {o:Oper} (hj:l[j]?=some o):o.dst≠some d:=by
 induction l generalizing j with
 | nil=>simp at hj
 | cons x r ih =>
  simp only[c23,z1o] at h
  cases j with
  | zero =>
   simp at hj
   subst hj
   intro e
   rw[e] at h
   simp at h
  | succ j=>exact ih h.2 (by simpa using hj)
theorem a2g:∀ {l:List Oper} {i j:Nat} {o q:Oper} {d:Nat},a4z l=true→l[i]?=some o→l[j]?=some q→o.dst=some d→q.dst=some d→i=j:=by
 intro l
 induction l with
 | nil=>intro i j o q d _ h; simp at h
 | cons x r ih =>
  intro i j o q d h hi hj ho hq
  simp only[a4z,z0d] at h
  cases i with
  | zero =>
   cases j with
   | zero=>rfl
   | succ j =>
    simp at hi hj
    subst hi
    rw[ho] at h
    simp only[z0x] at h
    exact absurd hq (b56 h.1 hj)
  | succ i =>
   cases j with
   | zero =>
    simp at hi hj
    subst hj
    rw[hq] at h
    simp only[z0x] at h
    exact absurd ho (b56 h.1 hi)
   | succ j =>
    have:=ih h.2 (i:=i) (j:=j) (by simpa using hi) (by simpa using hj) ho hq
    omega
theorem a8i:∀ {l:List Oper} {ar:List Nat} {i ai t j0:Nat},b3a i ai t j0 l ar=true→l.length=ar.length→∀ {j:Nat} {o:Oper} {aj:Nat},l[j]?=some o→ar[j]?=some aj→j0 + j≠i→o.dst=some t →
  (j0 + j < i→Nat.testBit ai (j0 + j)=true)∧(i < j0 + j→Nat.testBit aj i=true):=by
 intro l
 induction l with
 | nil=>intro ar i ai t j0 _ _ j o aj h; simp at h
 | cons x r ih =>
  intro ar i ai t j0 h hl j o aj hj haj hne hd
  cases ar with
  | nil=>simp at hl
  | cons a0 ar =>
   simp only[b3a,z0d] at h
   cases j with
   | zero =>
    simp at hj haj
    subst hj; subst haj
    have h1:=h.1
    have hb:Nat.beq j0 i=false:=by
     cases hb:Nat.beq j0 i
     ·rfl
     ·exact absurd (z0b hb) (by omega)
    rw[hb,hd] at h1
    simp only[z0m,z2g,z0f] at h1
    simp only[z1i]
    cases hlt:Nat.blt j0 i
    ·rw[hlt] at h1
     simp only[z0m] at h1
     refine⟨fun h'=>?_,fun _=>h1⟩
     have hb':Nat.blt j0 i=true:=by rw[z0u]; exact h'
     rw[hlt] at hb'; cases hb'
    ·rw[hlt] at h1
     simp only[z0f] at h1
     refine⟨fun _=>h1,fun h=>?_⟩
     rw[z0u] at hlt
     omega
   | succ j =>
    have:=ih h.2 (by simpa using hl) (j:=j) (by simpa using hj) (by simpa using haj) (by omega) hd
    rwa [show j0 + 1 + j=j0 + (j + 1) by omega] at this
theorem b14 {l:List Oper} {an:List Nat} {i ai:Nat} {ls:List Nat} (h:a99 i ai l an ls=true) {t:Nat} (ht:t∈ls):b3a i ai t 0 l an=true:=by
 induction ls with
 | nil=>cases ht
 | cons x r ih =>
  simp only[a99,z0d] at h
  rcases z0s.1 ht with rfl | ht
  ·exact h.1
  ·exact ih h.2 ht
theorem a8r {l:List Oper} {an:List Nat}:∀ {ls:List (List Nat)} {ar:List Nat} {i0:Nat},a04 l an i0 ls ar=true→∀ {i:Nat} {lk:List Nat} {ai:Nat},ls[i]?=some lk→ar[i]?=some ai→a99 (i0 + i) ai l an lk=true:=by
 intro ls
 induction ls with
 | nil=>intro ar i0 _ i lk ai h; simp at h
 | cons x r ih =>
  intro ar i0 h i lk ai hi ha
  cases ar with
  | nil=>simp[a04] at h
  | cons a0 ar =>
   simp only[a04,z0d] at h
   cases i with
   | zero=>simp at hi ha; subst hi; subst ha; exact h.1
   | succ i =>
    have:=ih h.2 (i:=i) (by simpa using hi) (by simpa using ha)
    rwa [show i0 + 1 + i=i0 + (i + 1) by omega] at this
theorem a68:∀ {ar:List Nat} {b:Nat},a3z b ar=true→∀ {i:Nat} {ai:Nat},ar[i]?=some ai→∀ k,k < b + i→Nat.testBit ai k=true:=by
 intro ar
 induction ar with
 | nil=>intro b _ i ai h; simp at h
 | cons x r ih =>
  intro b h i ai hi k hk
  simp only[a3z,z0d] at h
  cases i with
  | zero =>
   simp at hi
   subst hi
   have h1:=z0b h.1
   have h2:Nat.testBit (x &&& (1 <<< b - 1)) k=Nat.testBit (1 <<< b - 1) k:=by rw[h1]
   rw[Nat.testBit_and,Nat.one_shiftLeft,Nat.testBit_two_pow_sub_one] at h2
   simpa [show k < b by omega] using h2
  | succ i=>exact ih h.2 (i:=i) (by simpa using hi) k (by omega)
theorem a0l {T:Tab} {ops:List Oper} {sl sl':List Slot} {m m':List MBlk} {o:Oper} {ps:List Prop} (h:opA T ops sl m o=some (ps,sl',m')):(∃ new,m'=m ++ new)∧(∃ s,a58 sl o.dst s=some sl')∧s8 o.dst sl=true:=by
 unfold opA at h
 simp only[a9s] at h
 split at h
 ·rename_i c hc
  cases hk:(b2k sl c c && s8 o.dst sl && a7i o.dst c)
  ·simp[hk] at h
  ·rw[hk] at h
   simp only[z0f] at h
   simp only[z0d] at hk
   split at h
   ·split at h
    ·rename_i sl1 hput
     simp only[z0a,z0g] at h
     obtain⟨_,rfl,rfl⟩:=h
     exact⟨⟨_,rfl⟩,⟨_,hput⟩,hk.1.2⟩
    ·cases h
   ·cases h
 ·cases hk:s8 o.dst sl
  ·simp[hk] at h
  ·simp only[hk,z0f] at h
   split at h
   ·rename_i sl1 hput
    simp only[z0a,z0g] at h
    obtain⟨_,rfl,rfl⟩:=h
    exact⟨⟨[],by simp⟩,⟨_,hput⟩,rfl⟩
   ·cases h
 ·cases h
theorem c4d {T:Tab} {ops:List Oper} {sl sl':List Slot} {m m':List MBlk} {o:Oper} {ps:List Prop} {s:Slot} {d:Nat} (h:opA T ops sl m o=some (ps,sl',m')) (hp:a58 sl o.dst s=some sl') (hd:o.dst=some d):∀ e∈s.ch.map (·.1),e∈y8 sl ops o:=by
 have same:∀ {s1:Slot},a58 sl o.dst s1=some sl'→s1=s:=fun {s1} h1=>by
  have e1:=(a2t h1).2.2 d
  have e2:=(a2t hp).2.2 d
  rw[if_pos hd] at e1 e2
  rw[e1] at e2
  simpa using e2
 unfold opA at h
 simp only[a9s] at h
 split at h
 ·rename_i c hc
  cases hk:(b2k sl c c && s8 o.dst sl && a7i o.dst c)
  ·simp[hk] at h
  ·rw[hk] at h
   simp only[z0f] at h
   split at h
   ·split at h
    ·rename_i sl1 hput
     simp only[z0a,z0g] at h
     obtain⟨_,rfl,_⟩:=h
     obtain rfl:=same hput
     intro e he
     simp only[y8,hc,z0n]
     exact .inr he
    ·cases h
   ·cases h
 ·cases hk:s8 o.dst sl
  ·simp[hk] at h
  ·simp only[hk,z0f] at h
   split at h
   ·rename_i sl1 hput
    simp only[z0a,z0g] at h
    obtain⟨_,rfl,_⟩:=h
    obtain rfl:=same hput
    intro e he
    simp at he
   ·cases h
 ·cases h
theorem a8n {T:Tab} {ops:List Oper}:∀(tail:List Oper) (sl:List Slot) (m:List MBlk) (ps:List Prop) (sl':List Slot) (m':List MBlk) (ls:List (List Nat)) (r:List Oper),b0n T ops tail sl m=(ps,sl',m',ls,r) →
  ∃(S:Nat→List Slot) (M:Nat→List MBlk) (p:Nat→List Prop),S 0=sl∧M 0=m∧S ls.length=sl'∧M ls.length=m'∧r=tail.drop ls.length∧ls.length≤tail.length ∧
   ∀ i,i < ls.length→∃ o,tail[i]?=some o∧opA T ops (S i) (M i) o=some (p i,S (i + 1),M (i + 1))∧ls[i]?=some (y8 (S i) ops o)∧∀ q∈p i,q∈ps:=by
 intro tail
 induction tail with
 | nil =>
  intro sl m ps sl' m' ls r h
  simp only[b0n,z0g] at h
  obtain⟨rfl,rfl,rfl,rfl,rfl⟩:=h
  exact⟨fun _=>sl,fun _=>m,fun _=>[],rfl,rfl,rfl,rfl,rfl,z0q _,fun i hi=>by simp at hi⟩
 | cons o tail ih =>
  intro sl m ps sl' m' ls r h
  simp only[b0n] at h
  split at h
  ·rename_i ps1 sl1 m1 hA
   generalize hrec:b0n T ops tail sl1 m1=res at h
   obtain⟨qs,sl2,m2,ls2,r2⟩:=res
   simp only[z0g] at h
   obtain⟨rfl,rfl,rfl,rfl,rfl⟩:=h
   obtain⟨S,M,p,h1,h2,h3,h4,h5,h6,h7⟩:=ih sl1 m1 qs sl2 m2 ls2 r2 hrec
   refine⟨fun n=>match n with | 0=>sl | n + 1=>S n,fun n=>match n with | 0=>m | n + 1=>M n,fun n=>match n with | 0=>ps1 | n + 1=>p n,rfl,rfl,h3,h4,by simpa using h5,by simpa using h6,fun i hi=>?_⟩
   cases i with
   | zero=>exact⟨o,rfl,by simp only[h1,h2]; exact hA,rfl,fun q hq=>z0n.2 (.inl hq)⟩
   | succ i =>
    obtain⟨q,k1,k2,k3,k4⟩:=h7 i (by simpa using hi)
    exact⟨q,by simpa using k1,k2,by simpa using k3,fun x hx=>z0n.2 (.inr (k4 x hx))⟩
  ·simp only[z0g] at h
   obtain⟨rfl,rfl,rfl,rfl,rfl⟩:=h
   exact⟨fun _=>sl,fun _=>m,fun _=>[],rfl,rfl,rfl,rfl,rfl,z2j _,fun i hi=>by simp at hi⟩
theorem b65 {sl:List Slot} (h:a0c sl=true) {d:Nat} {s:Slot} (hs:sl[d]?=some s):s.ch=[]:=by
 induction sl generalizing d with
 | nil=>simp at hs
 | cons x r ih =>
  simp only[a0c,z0d,List.isEmpty_iff] at h
  cases d with
  | zero=>simp at hs; subst hs; exact h.1
  | succ d=>exact ih h.2 (by simpa using hs)
section
variable {P:Program} {T:Tab} {B:Lim} {w0:World}
theorem MR.fill {W W':World} {ρ σ:Env} {m new:List MBlk} {base:Nat} (h:MR B w0 W ρ m) (hb:Below W.heap.size W W') (hσ:∀ r,r < base∨base + new.length≤r→σ r=ρ r) (hfr:∀ r,base≤r→r < base + new.length→ρ r=none)
  (hg:SGrow ρ σ W W') (hat:∀ k,k < new.length→m[base + k]?=new[k]?) (hn:News σ W W' base new):MR B w0 W' σ m:=by
 have hle:∀ r y,ρ r=some y→σ r=some y:=fun r y hr=>by
  by_cases h1:r < base∨base + new.length≤r
  ·rw[hσ r h1]; exact hr
  ·rw[hfr r (by omega) (by omega)] at hr; cases hr
 have hi:∀ {r k},¬ (r < base∨base + new.length≤r)→m[r]?=some k→new[r - base]?=some k:=fun {r k} hr hk=>by
  rw[← hat (r - base) (by omega),show base + (r - base)=r by omega]; exact hk
 refine⟨fun g hg'=>hg.1 g (h.sub g hg'),fun g hg'=>?_,fun g hg'=>?_,h.below.trans (.of_below hb (fun g hk=>h.hS g (h.sub g hk))),fun r k hk hr=>?_,fun r hr=>?_,fun r g hx=>?_,fun r s g h1 h2=>?_,fun r g s k a c hx hk ho hsa=>?_,?_⟩
 ·rcases hg.newR g hg' with h1 | h1
  ·exact h.rows g h1
  ·exact .inr fun hk=>by have:=h.hS g (h.sub g hk); omega
 ·rcases hg.2 g hg' with h1 | h1
  ·have:=h.hS g h1; have:=hb.size; omega
  ·exact h1.2
 ·by_cases hlt:r < base∨base + new.length≤r
  ·rw[hσ r hlt] at hr
   have h0:=h.blk r k hk hr
   refine(h0.later h.hS hb).mono hle hg.1 hg.leT (fun a c ho hra hs=>?_) (fun g hx=>by rw[hg.eqX]; exact hx)
   have:=t9 h0 ho hra
   rcases hg.2 _ hs with h1 | h1
   ·exact this.1 h1
   ·omega
  ·have:=hn.blk (r - base) k (hi hlt hk)
   rw[show base + (r - base)=r by omega] at this
   exact this hr
 ·by_cases hlt:r < base∨base + new.length≤r
  ·rw[hσ r hlt] at hr
   exact h.dom r hr
  ·have hk:r - base < new.length:=by omega
   have:=hat (r - base) hk
   rw[show base + (r - base)=r by omega,z0i hk] at this
   exact(z0c.1 this).1
 ·rw[hg.eqX] at hx
  obtain⟨h1,h2,h3⟩:=h.xlt r g hx
  refine⟨h1,fun hs=>?_,z2c h3 hb.size⟩
  rcases hg.2 g hs with e | e
  ·exact h2 e
  ·omega
 ·rw[hg.eqX] at h1 h2
  exact h.xsep r s g h1 h2
 ·rw[hg.eqX] at hx
  obtain⟨h1,h2,h3⟩:=h.xlt r g hx
  by_cases hlt:s < base∨base + new.length≤s
  ·exact h.xown r g s k a c hx hk ho (by rw[← hσ s hlt]; exact hsa)
  ·have:=hn.fresh (s - base) k a c (hi hlt hk) ho (by rw[show base + (s - base)=s by omega]; exact hsa)
   omega
 ·intro r s k l a b c d hk hl hok hol hra hsb hab
  by_cases hr:r < base∨base + new.length≤r <;> by_cases hs:s < base∨base + new.length≤s
  ·exact h.sep r s k l a b c d hk hl hok hol (by rw[← hσ r hr]; exact hra) (by rw[← hσ s hs]; exact hsb) hab
  ·have e1:=t9 (h.blk r k hk (by rw[← hσ r hr,hra]; simp)) hok (by rw[← hσ r hr]; exact hra)
   have e2:=hn.fresh (s - base) l b d (hi hs hl) hol (by rw[show base + (s - base)=s by omega]; exact hsb)
   omega
  ·have e1:=t9 (h.blk s l hl (by rw[← hσ s hs,hsb]; simp)) hol (by rw[← hσ s hs]; exact hsb)
   have e2:=hn.fresh (r - base) k a c (hi hr hk) hok (by rw[show base + (r - base)=r by omega]; exact hra)
   omega
  ·have:=hn.sep (r - base) (s - base) k l a b c d (hi hr hk) (hi hs hl) hok hol (by rw[show base + (r - base)=r by omega]; exact hra) (by rw[show base + (s - base)=s by omega]; exact hsb) hab
   omega
theorem a84 {M:Nat→List MBlk} {n:Nat} (h:∀ i,i < n→∃ new,M (i + 1)=M i ++ new):∀ i j,i≤j→j≤n→∃ new,M j=M i ++ new:=by
 intro i j
 induction j with
 | zero =>
  intro hij _
  have h0:i=0:=by omega
  subst h0
  exact⟨[],by simp⟩
 | succ j ih =>
  intro hij hjn
  by_cases e:i=j + 1
  ·subst e; exact⟨[],by simp⟩
  ·obtain⟨n1,h1⟩:=ih (by omega) (by omega)
   obtain⟨n2,h2⟩:=h j (by omega)
   exact⟨n1 ++ n2,by rw[h2,h1,z1y]⟩
structure Pre (ops:List Oper) (S:Nat→List Slot) (n:Nat):Prop where
 step:∀ i,i < n→∃ o s,ops[i]?=some o∧a58 (S i) o.dst s=some (S (i + 1))
 free:∀ i,i < n→∀ o,ops[i]?=some o→s8 o.dst (S i)=true
 dsts:a4z ops=true
theorem Pre.len {ops:List Oper} {S:Nat→List Slot} {n:Nat} (h:Pre ops S n):∀ i,i≤n→(S i).length=(S 0).length:=by
 intro i
 induction i with
 | zero=>intro _; rfl
 | succ i ih =>
  intro hi
  obtain⟨o,s,_,hp⟩:=h.step i (by omega)
  rw[(a2t hp).1,ih (by omega)]
theorem Pre.keep {ops:List Oper} {S:Nat→List Slot} {n:Nat} (h:Pre ops S n) {d:Nat}:∀ i k,i≤k→k≤n→(∀ j o,i≤j→j < k→ops[j]?=some o→o.dst≠some d)→(S k)[d]?=(S i)[d]?:=by
 intro i k
 induction k with
 | zero =>
  intro hik _ _
  have h0:i=0:=by omega
  subst h0
  rfl
 | succ k ih =>
  intro hik hkn hno
  by_cases e:i=k + 1
  ·subst e; rfl
  ·obtain⟨o,s,ho,hp⟩:=h.step k (by omega)
   rw[(a2t hp).2.2 d,if_neg (hno k o (by omega) (by omega) ho)]
   exact ih (by omega) (by omega) fun j o hj hjk=>hno j o hj (by omega)
def Cur (ops:List Oper) (S:Nat→List Slot) (n:Nat) (L:Nat→Prop) (d:Nat) (s:Slot):Prop:=
 (∃ j o,j < n∧L j∧ops[j]?=some o∧o.dst=some d∧(S (j + 1))[d]?=some s)∨((∀ j o,j < n→L j→ops[j]?=some o→o.dst≠some d)∧(S 0)[d]?=some s)
structure Inv (T:Tab) (B:Lim) (w0:World) (ops:List Oper) (an:List Nat) (S:Nat→List Slot) (M:Nat→List MBlk) (n:Nat) (listed:Array Bool) (a:Act) (W:World):Prop where
 size:listed.size=ops.length
 closed:∀ j aj,an[j]?=some aj→listed.getD j true=true→∀ k,Nat.testBit aj k=true→listed.getD k false=true
 tail:∀ j,n≤j→j < ops.length→listed.getD j true=false
 rel:∃ ρ,a.tmps.size=(S 0).length∧(∀ d s,Cur ops S n (fun j=>listed.getD j false=true) d s→SlotOK ρ s a d)∧MR B w0 W ρ (M n)∧GlobOk T ρ∧DfOk B ρ a W ∧
  ∀ i,i < n→listed.getD i true=false→∀ r,(M i).length≤r→r < (M (i + 1)).length→ρ r=none
theorem m4 {listed:Array Bool} {j:Nat} (h:j < listed.size):listed.getD j true=listed.getD j false:=by simp[h]
theorem a3f {ops:Array Oper} {an:List Nat} (han:an=u5 ops.toList []) (hed:z8 0 ops.toList=true) {listed:Array Bool} (hcl:∀ j aj,an[j]?=some aj→listed.getD j true=true→∀ k,Nat.testBit aj k=true→listed.getD k false=true)
  (hsz:listed.size=ops.toList.length) {i:Nat} (hi:i∈Region.ready .any ops listed) {ai:Nat} (hai:an[i]?=some ai):∀ k,Nat.testBit ai k=true→listed.getD k false=true:=by
 obtain⟨_,o,ho,hall⟩:=mem_ready.1 hi
 have ho':ops.toList[i]?=some o:=by simpa using ho
 obtain⟨hl,_,h3⟩:=x9 ops.toList []
 have h4:=h3 i o ho'
 simp only[z3a,z1d] at h4
 rw[← han,hai] at h4
 simp only[z0a] at h4
 subst h4
 intro k hk
 obtain⟨e,he,hb,hor⟩:=b4y.1 hk
 have hlt:=a0n (a0o hed ho') he hb
 simp only[z1d] at hlt
 have hls:=hall e (by simpa using he) hb
 rcases hor with rfl | ⟨x,hx,hxk⟩
 ·exact hls
 ·rw[z1u,if_pos hlt] at hx
  have hlen:e.on < listed.size:=by
   have:=(z0c.1 ho').1
   omega
  exact hcl e.on x hx (by rw[m4 hlen]; exact hls) k hxk
theorem b5c {ops:Array Oper} {Q:Exit→Act→World→Prop} {K:Act→World→Prop} {an:List Nat} {S:Nat→List Slot} {M:Nat→List MBlk} {p:Nat→List Prop} {ls:List (List Nat)} {listed:Array Bool} {a:Act} {W:World} (hT:TabOk P T)
  (han:an=u5 ops.toList []) (hed:z8 0 ops.toList=true) (hlk:a04 ops.toList an 0 ls an=true) (hcln:a0c (S 0)=true) (hpre:Pre ops.toList S ls.length)
  (hst:∀ i,i < ls.length→∃ o,ops.toList[i]?=some o∧opA T ops.toList (S i) (M i) o=some (p i,S (i + 1),M (i + 1))∧ls[i]?=some (y8 (S i) ops.toList o)) (hle:ls.length≤ops.toList.length) (hps:∀ i,i < ls.length→∀ q∈p i,q)
  (hI:Inv T B w0 ops.toList an S M ls.length listed a W) {i:Nat} (hin:i < ls.length) (hi:i∈Region.ready .any ops listed)
  (hK:∀ a W,Inv T B w0 ops.toList an S M ls.length (listed.setIfInBounds i true) a W→K a W):∃ o,ops[i]?=some o∧(if Region.wanted o (yielded ops a.tmps) then o.wp P a W K Q else K (a.put o.dst undef) W):=by
 obtain⟨ρ,hsz,hcur,hmr,hgl,hdf,hfr⟩:=hI.rel
 obtain⟨hiu,_⟩:=mem_ready.1 hi
 obtain⟨o,ho,hA,hlook⟩:=hst i hin
 have ho':ops[i]?=some o:=by simpa using ho
 have hanl:an.length=ops.toList.length:=by rw[han]; have:=(x9 ops.toList []).1; simpa using this
 have hilt:i < ops.toList.length:=by omega
 obtain⟨ai,hai⟩:∃ ai,an[i]?=some ai:=⟨_,z0i (by omega)⟩
 have hanc:=a3f han hed hI.closed hI.size hi hai
 have hlkI:=a8r hlk (i:=i) hlook hai
 simp only[z1d] at hlkI
 have hMn:∀ j,j < ls.length→∃ new,M (j + 1)=M j ++ new:=fun j hj=>by
  obtain⟨oj,_,hAj,_⟩:=hst j hj
  exact(a0l hAj).1
 have hMm:=a84 hMn
 obtain⟨tl,htl⟩:=hMm i ls.length (by omega) (z0q _)
 have hsub:∀ {r k},(M i)[r]?=some k→(M ls.length)[r]?=some k:=fun {r k} hk=>by
  rw[htl,z0t (z0c.1 hk).1]; exact hk
 have hinL:∀ j,j < ops.toList.length→(listed.getD j true=false∨listed.getD j false=true):=fun j hj=>by
  rw[m4 (by rw[hI.size]; exact hj)]
  cases listed.getD j false
  ·exact .inl rfl
  ·exact .inr rfl
 have notL:∀ j,j < ops.toList.length→listed.getD j true=false→¬ listed.getD j false=true:=fun j hj h h'=>by
  rw[m4 (by rw[hI.size]; exact hj),h'] at h; cases h
 have hslot:∀ t∈y8 (S i) ops.toList o,∀ s,(S i)[t]?=some s→SlotOK ρ s a t:=fun t ht s hs=>by
  refine hcur t s ?_
  have hg:=b14 hlkI ht
  by_cases hw:∃ j oj,j < i∧ops.toList[j]?=some oj∧oj.dst=some t
  ·obtain⟨j,oj,hji,hoj,hdj⟩:=hw
   obtain⟨aj,haj⟩:∃ aj,an[j]?=some aj:=⟨_,z0i (by omega)⟩
   have h1:=(a8i hg (by omega) hoj haj (by omega) hdj).1 (by omega)
   simp only[z1d] at h1
   refine .inl ⟨j,oj,by omega,hanc j h1,hoj,hdj,?_⟩
   rw[← hs]
   exact(hpre.keep (j + 1) i (by omega) (by omega) fun k ok hk hki hok hdk=>by
    have:=a2g hpre.dsts hoj hok hdj hdk
    omega).symm
  ·refine .inr ⟨fun j oj hjn hlj hoj hdj=>?_,?_⟩
   ·have hji:¬ j < i:=fun h=>hw ⟨j,oj,h,hoj,hdj⟩
    by_cases e:j=i
    ·subst e
     exact notL j hilt hiu hlj
    ·obtain⟨aj,haj⟩:∃ aj,an[j]?=some aj:=⟨_,z0i (by omega)⟩
     have h1:=(a8i hg (by omega) hoj haj (by omega) hdj).2 (by omega)
     have hjl:j < ops.toList.length:=by omega
     exact notL i hilt hiu (hI.closed j aj haj (by rw[m4 (by rw[hI.size]; exact hjl)]; exact hlj) i h1)
   ·rw[← hs]
    exact(hpre.keep 0 i (by omega) (by omega) fun k ok _ hki hok hdk=>hw ⟨k,ok,hki,hok,hdk⟩).symm
 have hSi:(S i).length=a.tmps.size:=by rw[hpre.len i (by omega),hsz]
 obtain⟨c,sv,new,hM1,hput,hclk,hdc,hdfree,h1,h2⟩:=b8u (P:=P) (W:=W) hT hgl hmr.hS (fun r k hk hr=>hmr.blk r k (hsub hk) hr) hSi hslot (fun r hr1 hr2=>hfr i hin hiu r hr1 hr2) hA (hps i hin)
 have fin:∀(σ:Env) (v:Value) (W':World),(∀ r y,ρ r=some y→σ r=some y)→(∀ r,r < (M i).length∨(M i).length + new.length≤r→σ r=ρ r)→MR B w0 W' σ (M ls.length)→(∀ a',a'.defers=a.defers→DfOk B σ a' W')→((sat a c∧Den σ sv v)∨((¬ sat a c∨(c=[]∧sv=.dead))∧v=undef)) →
   Inv T B w0 ops.toList an S M ls.length (listed.setIfInBounds i true) (a.put o.dst v) W':=fun σ v W' hle hσ hmr' hdf' hv=>by
  have hsetf:∀ j,j≠i→(listed.setIfInBounds i true).getD j false=listed.getD j false:=fun j hj=>getD_set_ne false (Ne.symm hj)
  have hsett:∀ j,j≠i→(listed.setIfInBounds i true).getD j true=listed.getD j true:=fun j hj=>getD_set_ne true (Ne.symm hj)
  have hseti:(listed.setIfInBounds i true).getD i false=true:=by
   have hls:i < listed.size:=by rw[hI.size]; exact hilt
   simp[hls]
  refine⟨by simpa using hI.size,fun j aj haj hlj k hk=>?_,fun j hj hjl=>by rw[hsett j (by omega)]; exact hI.tail j hj hjl,σ,by rw[b95]; exact hsz,fun d s hcs=>?_,hmr',hgl.mono hle,hdf' _ (x7 _ _),fun j hj hlj r hr1 hr2=>?_⟩
  ·by_cases hki:k=i
   ·subst hki; exact hseti
   ·rw[hsetf k hki]
    by_cases hji:j=i
    ·subst hji
     rw[hai] at haj
     simp only[z0a] at haj
     subst haj
     exact hanc k hk
    ·rw[hsett j hji] at hlj
     exact hI.closed j aj haj hlj k hk
  ·
   have old:∀(hne:o.dst≠some d) (hch:∀ e,o.dst=some e→e ∉ s.ch.map (·.1)),SlotOK ρ s a d→SlotOK σ s (a.put o.dst v) d:=fun hne hch h=>(h.mono hle).put hne hch
   rcases hcs with⟨j,oj,hjn,hlj,hoj,hdj,hsj⟩ | ⟨hno,hs0⟩
   ·by_cases hji:j=i
    ·subst hji
     rw[ho] at hoj
     simp only[z0a] at hoj
     subst hoj
     rw[(a2t hput).2.2 d,if_pos hdj] at hsj
     simp only[z0a] at hsj
     subst hsj
     rw[hdj]
     exact SlotOK.new (by rw[← hSi]; exact(a2t hput).2.1 d hdj) (hdc d hdj) hv
    ·simp only[hsetf j hji] at hlj
     have hne:o.dst≠some d:=fun e=>hji (a2g hpre.dsts hoj ho hdj e)
     refine old hne (fun e he hmem=>?_) (hcur d s (.inl ⟨j,oj,hjn,hlj,hoj,hdj,hsj⟩))
     by_cases hij:i < j
     ·obtain⟨oj',hoj',hAj,hlkj⟩:=hst j hjn
      rw[hoj] at hoj'
      simp only[z0a] at hoj'
      subst hoj'
      obtain⟨aj,haj⟩:∃ aj,an[j]?=some aj:=⟨_,z0i (by omega)⟩
      have hin2:e∈y8 (S j) ops.toList oj:=by
       obtain⟨s0,hp0⟩:=(a0l hAj).2.1
       have hs0':s0=s:=by
        have:=(a2t hp0).2.2 d
        rw[if_pos hdj,hsj] at this
        simpa using this.symm
       subst hs0'
       exact c4d hAj hp0 hdj e hmem
      have hlkJ:=a8r hlk (i:=j) hlkj haj
      simp only[z1d] at hlkJ
      have h3:=(a8i (b14 hlkJ hin2) (by omega) ho hai (by omega) he).1 (by omega)
      simp only[z1d] at h3
      exact notL i hilt hiu (hI.closed j aj haj (by rw[m4 (by rw[hI.size]; omega)]; exact hlj) i h3)
     ·have hkeep:=hpre.keep (d:=d) (j + 1) i (by omega) (by omega) fun k ok hk hki hok hdk=>by
       have:=a2g hpre.dsts hoj hok hdj hdk
       omega
      exact b0z hdfree (hkeep.trans hsj) e he hmem
   ·have hne:o.dst≠some d:=fun e=>hno i o hin hseti ho e
    refine old hne (fun e _=>by rw[b65 hcln hs0]; simp) (hcur d s (.inr ⟨fun j oj hjn hlj hoj hdj=>?_,hs0⟩))
    by_cases hji:j=i
    ·subst hji; exact notL j hilt hiu hlj
    ·exact hno j oj hjn ((hsetf j hji).trans hlj) hoj hdj
  ·have hji:j≠i:=fun e=>by subst e; rw[m4 (by simpa [hI.size] using hilt),hseti] at hlj; cases hlj
   rw[hsett j hji] at hlj
   rw[hσ r ?_]
   ·exact hfr j hj hlj r hr1 hr2
   ·have hlen:(M (i + 1)).length=(M i).length + new.length:=by rw[hM1]; simp
    by_cases hij:i < j
    ·obtain⟨n1,e1⟩:=hMm (i + 1) j (by omega) (by omega)
     have:(M (i + 1)).length≤(M j).length:=by rw[e1]; simp
     exact .inr (by omega)
    ·obtain⟨n1,e1⟩:=hMm (j + 1) i (by omega) (by omega)
     have:(M (j + 1)).length≤(M i).length:=by rw[e1]; simp
     exact .inl (by omega)
 refine⟨o,ho',?_⟩
 split
 ·rename_i hw
  obtain⟨hsat,hop⟩:=h1 hw
  refine hop.wp fun v W' hv=>hK _ _ ?_
  obtain⟨hb,σ,hσ,hsg,hd,hn⟩:=hv
  have hfr':∀ r,(M i).length≤r→r < (M i).length + new.length→ρ r=none:=fun r hr1 hr2=>hfr i hin hiu r hr1 (by rw[hM1]; simp; omega)
  have hle':∀ r y,ρ r=some y→σ r=some y:=fun r y hr=>by
   by_cases hc:r < (M i).length∨(M i).length + new.length≤r
   ·rw[hσ r hc]; exact hr
   ·rw[hfr' r (by omega) (by omega)] at hr; cases hr
  obtain⟨tl1,htl1⟩:=hMm (i + 1) ls.length (by omega) (z0q _)
  exact fin σ v W' hle' hσ (hmr.fill hb hσ hfr' hsg (fun k hk=>by rw[htl1,hM1,z1y,z1c (by omega),Nat.add_sub_cancel_left,z0t hk]) hn) (fun a' ha=>hdf.step ha hsg.le (fun g hg=>hb.block g (hmr.hS g hg))) (.inl ⟨hsat,hd⟩)
 ·rename_i hw
  exact hK _ _ (fin ρ undef W (fun _ _ h=>h) (fun _ _=>rfl) hmr (fun a' ha=>hdf.step ha (fun _ h=>h) (fun _ _=>rfl)) (.inr ⟨h2 (z0z.2 hw),rfl⟩))
theorem d23 {ops:Array Oper} {Q:Exit→Act→World→Prop} {K:Act→World→Prop} {a:Act} {W:World} {i:Nat} (h:∃ o,ops[i]?=some o∧(if Region.wanted o (yielded ops a.tmps) then o.wp P a W K Q else K (a.put o.dst undef) W)):wpOp P ops Q i K a W:=by
 obtain⟨o,ho,h⟩:=h
 unfold wpOp
 simp only[ho]
 split
 ·rename_i hw; rw[if_pos hw] at h; exact .inl h
 ·rename_i hw; rw[if_neg hw] at h; exact h
theorem b31 {ops:Array Oper} {Q:Exit→Act→World→Prop} {K:Act→World→Prop} {an:List Nat} {S:Nat→List Slot} {M:Nat→List MBlk} {p:Nat→List Prop} {ls:List (List Nat)} {listed:Array Bool} {a:Act} {W:World} (hT:TabOk P T)
  (han:an=u5 ops.toList []) (hed:z8 0 ops.toList=true) (hlk:a04 ops.toList an 0 ls an=true) (hcln:a0c (S 0)=true) (hpre:Pre ops.toList S ls.length)
  (hst:∀ i,i < ls.length→∃ o,ops.toList[i]?=some o∧opA T ops.toList (S i) (M i) o=some (p i,S (i + 1),M (i + 1))∧ls[i]?=some (y8 (S i) ops.toList o)) (hle:ls.length≤ops.toList.length) (hps:∀ i,i < ls.length→∀ q∈p i,q)
  (hI:Inv T B w0 ops.toList an S M ls.length listed a W) {i:Nat} (hin:i < ls.length) (hi:i∈Region.ready .any ops listed)
  (hK:∀ a W,Inv T B w0 ops.toList an S M ls.length (listed.setIfInBounds i true) a W→K a W):wpOp P ops Q i K a W:=d23 (b5c hT han hed hlk hcln hpre hst hle hps hI hin hi hK)
end
end Go.Proofs.YtaeeaniofljmnaaGreatDoor.Sx

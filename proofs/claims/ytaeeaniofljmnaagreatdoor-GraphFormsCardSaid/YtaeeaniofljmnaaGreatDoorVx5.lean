/-
  A part of the proof (Vx5).
-/
import Derived.Test.YtaeeaniofljmnaaGreatDoorVx4
namespace Go.Proofs.YtaeeaniofljmnaaGreatDoor.Sx
set_option linter.unusedSimpArgs false
set_option linter.unusedVariables false
open Go Go.RowKit
section
variable {P:Program} {T:Tab} {ρ:Env} {sl:List Slot} {a:Act} {c:List (Nat × Bool)} {W w0:World} {m:List MBlk} {o:Oper}
def SlotOK (ρ:Env) (s:Slot) (a:Act) (d:Nat):Prop:=(sat a s.ch→Den ρ s.sv (a.tmps.getD d undef))∧(¬ sat a s.ch→a.tmps.getD d undef=undef)
theorem b1y {ops:Array Oper} {j d:Nat} {og:Oper} {w:Bool} (ho:nth ops.toList j=some og) (hd:og.dst=some d) (hlt:d < a.tmps.size):(yielded ops a.tmps j == some w)=true↔a.tmps.getD d undef=.bool w:=by
 have ho':ops[j]?=some og:=by rw[u5] at ho; simpa using ho
 unfold yielded
 simp only[ho',Option.bind_some,hd]
 have hg:a.tmps[d]?=some a.tmps[d]:=z3d hlt
 rw[hg]
 have e:a.tmps.getD d undef=a.tmps[d]:=by simp[hlt]
 rw[e]
 generalize a.tmps[d]=v
 cases v <;> simp
theorem a8g (w:Bool):Value.bool w≠undef:=by simp[undef]
theorem b50 {d:Nat} {w:Bool} (h:sat a ((d,w) :: c)):a.tmps.getD d undef=.bool w∧sat a c:=⟨h d w (by simp),fun q u hq=>h q u (by simp[hq])⟩
theorem a92 {ops:Array Oper} (hlen:sl.length=a.tmps.size) (hs:∀ g w og d s,o.guard=some (g,w)→nth ops.toList g=some og→og.dst=some d→sl[d]?=some s→SlotOK ρ s a d)
  (h:a4u sl ops.toList o.guard=some (some c)):Region.wanted o (yielded ops a.tmps)=true↔sat a c:=by
 unfold Region.wanted
 unfold a4u at h
 split at h
 ·rename_i hg
  simp only[z0a] at h
  subst h
  simp only[hg,true_iff]
  intro q w hq; cases hq
 ·rename_i j w hg
  split at h
  ·rename_i og hog
   split at h
   ·rename_i d hd
    split at h
    ·rename_i s hsl
     rw[u5] at hsl
     have hlt:d < a.tmps.size:=by rw[← hlen]; exact(z0c.1 hsl).1
     obtain⟨h1,h2⟩:=hs j w og d s hg hog hd hsl
     simp only[hg]
     rw[b1y hog hd hlt]
     by_cases hsat:sat a s.ch
     ·have hden:=h1 hsat
      split at h
      ·rename_i hsv
       simp only[z0a] at h; subst h
       rw[hsv] at hden
       rw[hden.tt_inv]
       simp[hsat]
      ·rename_i hsv
       simp only[z0a] at h; subst h
       rw[hsv] at hden
       rw[hden.ff_inv]
       simp[hsat]
      ·simp at h
      ·simp at h
      ·simp only[z0a] at h
       subst h
       exact⟨fun e=>b4y e hsat,fun e=>(b50 e).1⟩
      ·simp at h
     ·have hun:=h2 hsat
      have hne:a.tmps.getD d undef≠.bool w:=by rw[hun]; exact fun e=>a8g w e.symm
      have hc:¬ sat a c:=by
       split at h <;> first
        | (simp only[z0a] at h; subst h; exact hsat)
        | (simp only[z0a] at h; subst h; exact fun e=>hne (b50 e).1)
        | simp at h
      exact⟨fun e=>absurd e hne,fun e=>absurd e hc⟩
    ·cases h
   ·cases h
  ·cases h
theorem c1p {ops:Array Oper} (hlen:sl.length=a.tmps.size) (hs:∀ g w og d s,o.guard=some (g,w)→nth ops.toList g=some og→og.dst=some d→sl[d]?=some s→SlotOK ρ s a d)
  (h:a4u sl ops.toList o.guard=some none):Region.wanted o (yielded ops a.tmps)=false:=by
 unfold Region.wanted
 unfold a4u at h
 split at h
 ·simp at h
 ·rename_i j w hg
  split at h
  ·rename_i og hog
   split at h
   ·rename_i d hd
    split at h
    ·rename_i s hsl
     rw[u5] at hsl
     have hlt:d < a.tmps.size:=by rw[← hlen]; exact(z0c.1 hsl).1
     obtain⟨h1,h2⟩:=hs j w og d s hg hog hd hsl
     simp only[hg]
     rw[z1a,Ne,b1y hog hd hlt]
     by_cases hsat:sat a s.ch
     ·have hden:=h1 hsat
      split at h
      ·simp at h
      ·simp at h
      ·rename_i hsv; rw[hsv] at hden; rw[hden.tt_inv]; simp
      ·rename_i hsv; rw[hsv] at hden; rw[hden.ff_inv]; simp
      ·simp at h
      ·simp at h
     ·rw[h2 hsat]; exact fun e=>a8g w e.symm
    ·cases h
   ·cases h
  ·cases h
theorem c48 {p:Prop} {d:List (Nat × Bool)} (hd:sat a d) (hok:b3b sl c d=true) (hc:sat a c) (hs:∀ q∈d.map (·.1),∀ s,sl[q]?=some s→SlotOK ρ s a q) (h:b1m sl d p):p:=by
 induction d with
 | nil=>exact h
 | cons x r ih =>
  obtain⟨q,w⟩:=x
  obtain⟨h1,h2⟩:=b50 hd
  simp only[b3b,z0d] at hok
  have hs':∀ q∈r.map (·.1),∀ s,sl[q]?=some s→SlotOK ρ s a q:=fun q' hq=>hs q' (by simp only[z2f]; exact z0w _ hq)
  simp only[b1m] at h
  split at h
  ·rename_i s hsl
   have hok1:=hok.1
   rw[hsl] at hok1
   simp only at hok1
   rw[u5] at hsl
   have hden:=(hs q (by simp) s hsl).1 (b6u hok1 hc)
   split at h
   ·rename_i x hx
    rw[hx] at hden
    have:=hden.b_inv
    rw[h1] at this
    simp only[Value.bool.injEq] at this
    exact ih h2 hok.2 hs' (h this.symm)
   ·exact ih h2 hok.2 hs' h
  ·exact ih h2 hok.2 hs' h
theorem c1e {ps:List Prop} {d:List (Nat × Bool)} (hd:sat a d) (hok:b3b sl c d=true) (hc:sat a c) (hs:∀ q∈d.map (·.1),∀ s,sl[q]?=some s→SlotOK ρ s a q) (h:∀ q∈a7h sl d ps,q):∀ p∈ps,p:=by
 induction ps with
 | nil=>intro p hp; cases hp
 | cons x r ih =>
  simp only[a7h,z0t,forall_eq_or_imp] at h
  intro p hp
  rcases z0t.1 hp with rfl | hp
  ·exact c48 hd hok hc hs h.1
  ·exact ih h.2 p hp
theorem b3a {d:Nat} {c:List (Nat × Bool)}:a8x d c=true↔d ∉ c.map (·.1):=by
 induction c with
 | nil=>simp[a8x]
 | cons x r ih =>
  obtain⟨q,w⟩:=x
  simp only[a8x,z0d,ih,z2f,z0t,not_or]
  constructor
  ·rintro ⟨h1,h2⟩
   exact⟨fun e=>by subst e; simp at h1,h2⟩
  ·rintro ⟨h1,h2⟩
   refine⟨?_,h2⟩
   cases hb:Nat.beq q d
   ·rfl
   ·exact absurd (z0b hb).symm h1
theorem a3d {dst:Option Nat} {s:Slot} {sl':List Slot} (h:a6g sl dst s=some sl'):sl'.length=sl.length∧(∀ d,dst=some d→d < sl.length)∧∀ e,sl'[e]?=if dst=some e then some s else sl[e]?:=by
 unfold a6g at h
 cases dst with
 | none=>simp only[z0a] at h; subst h; simp
 | some d =>
  simp only at h
  split at h
  ·rename_i x hx
   simp only[z0a] at h
   subst h
   rw[u5] at hx
   have hlt:=(z0c.1 hx).1
   refine⟨e9 _ _ _,fun e he=>by simp only[z0a] at he; subst he; exact hlt,fun e=>?_⟩
   rw[n6]
   by_cases h:e=d
   ·subst h; simp[hlt]
   ·rw[if_neg (by omega),if_neg (by simp; omega)]
  ·cases h
theorem b55 {T:Tab} {dst:Option Nat} {v:SV} {ps:List Prop} (h:∀ p∈c0q T dst v ps,p):(∀ p∈ps,p)∧∀(σ:Env) (u:Value),Den σ v u→Den σ (b6v T dst v) u:=by
 cases dst with
 | none=>exact⟨h,fun _ _ hd=>hd⟩
 | some d =>
  simp only[c0q,b6v] at h ⊢
  cases hm:a0b d T.sure
  ·simp only[hm,z0l] at h ⊢
   exact⟨h,fun _ _ hd=>hd⟩
  ·simp only[hm,z0f] at h ⊢
   cases v <;> first | exact⟨h,fun _ _ hd=>hd⟩ | skip
   rename_i x
   have hx:x=true:=h _ z1l
   subst hx
   exact⟨fun p hp=>h p (z0w _ hp),fun σ u hd=>by rw[hd.b_inv]; exact .tt⟩
theorem b9s {ops:Array Oper} {ps:List Prop} {sl':List Slot} {m':List MBlk} (hT:TabOk P T) (hG:GlobOk T ρ) (hS:∀ g,ρ.S g→g < W.heap.size) (hblk:∀ r k,m[r]?=some k→ρ r≠none→BR ρ W r k)
  (hlen:sl.length=a.tmps.size) (hs:∀ t∈a08 sl ops.toList o,∀ s,sl[t]?=some s→SlotOK ρ s a t) (hf:∀ r,m.length≤r→r < m'.length→ρ r=none)
  (h:opA T ops.toList sl m o=some (ps,sl',m')) (hp:∀ p∈ps,p) :
  ∃(c:List (Nat × Bool)) (sv:SV) (new:List MBlk),m'=m ++ new∧a6g sl o.dst ⟨c,sv⟩=some sl'∧(∀ q∈c.map (·.1),q∈a08 sl ops.toList o)∧(∀ d,o.dst=some d→d ∉ c.map (·.1))∧u9 o.dst sl=true ∧
   (Region.wanted o (yielded ops a.tmps)=true→sat a c∧OpTo P a o W (StepPost ρ W m.length sv new))∧(Region.wanted o (yielded ops a.tmps)=false→¬ sat a c∨(c=[]∧sv=.dead)):=by
 have hguard:∀ g w og d s,o.guard=some (g,w)→nth ops.toList g=some og→og.dst=some d→sl[d]?=some s→SlotOK ρ s a d:=fun g w og d s hg hog hd hsd =>
  hs d (by simp only[a08,hg,hog,hd,z0o]; exact .inl (.inr (by simp))) s hsd
 have hops:OpsOk ρ sl a o.op.operands.toList:=fun t s ht hn hsat=>by
  rw[u5] at hn
  refine(hs t ?_ s hn).1 hsat
  simp only[a08,z0o]
  exact .inl (.inl (List.mem_filterMap.2 ⟨_,ht,rfl⟩))
 unfold opA at h
 simp only[b33] at h
 split at h
 ·rename_i c hc
  cases hk:(b3b sl c c && u9 o.dst sl && a81 o.dst c)
  ·simp[hk] at h
  ·rw[hk] at h
   simp only[z0f] at h
   simp only[z0d] at hk
   obtain⟨⟨k1,k2⟩,k3⟩:=hk
   have hlk:∀ q∈c.map (·.1),q∈a08 sl ops.toList o:=fun q hq=>by
    simp only[a08,hc,z0o]
    exact .inr hq
   split at h
   ·rename_i ar har
    split at h
    ·rename_i sl1 hput
     simp only[z0a,z0g] at h
     obtain⟨rfl,rfl,rfl⟩:=h
     have hw:=a92 hlen hguard hc
     have hsu:=b55 (T:=T) (dst:=o.dst) (v:=ar.sv) (ps:=ar.pre)
     refine⟨c,b6v T o.dst ar.sv,ar.new,rfl,hput,hlk,fun d hd=>by rw[hd] at k3; exact b3a.1 (by simpa [a81] using k3),k2,fun hwant=>?_,fun hwant=>?_⟩
     ·have hsat:=hw.1 hwant
      have hsu:=hsu (c1e hsat k1 hsat (fun q hq s hq'=>hs q (hlk q hq) s hq') hp)
      refine⟨hsat,(c0m hT hG hS hblk (fun r h1 h2=>hf r h1 (by simp; omega)) hops hsat har hsu.1).mono fun v w ⟨g1,σ,g2,g3,g4,g5⟩=>⟨g1,σ,g2,g3,hsu.2 σ v g4,g5⟩⟩
     ·exact .inl fun e=>by rw[hw.2 e] at hwant; cases hwant
    ·cases h
   ·cases h
 ·rename_i hc
  cases hk:u9 o.dst sl
  ·simp[hk] at h
  ·simp only[hk,z0f] at h
   split at h
   ·rename_i sl1 hput
    simp only[z0a,z0g] at h
    obtain⟨rfl,rfl,rfl⟩:=h
    refine⟨[],.dead,[],by simp,hput,fun q hq=>by simp at hq,fun d _=>by simp,rfl,fun hwant=>?_,fun _=>.inr ⟨rfl,rfl⟩⟩
    rw[c1p hlen hguard hc] at hwant
    cases hwant
   ·cases h
 ·cases h
end
end Go.Proofs.YtaeeaniofljmnaaGreatDoor.Sx

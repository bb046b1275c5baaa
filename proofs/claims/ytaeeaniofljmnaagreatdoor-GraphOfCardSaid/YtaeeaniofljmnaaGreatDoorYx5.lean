/-
  A part of the proof (Yx5).
-/
import Derived.Test.YtaeeaniofljmnaaGreatDoorYx4
namespace Go.Proofs.YtaeeaniofljmnaaGreatDoor.Sx
set_option linter.unusedSimpArgs false
set_option linter.unusedVariables false
open Go Go.RowKit
section
variable {P:Program} {T:Tab} {ρ:Env} {sl:List Slot} {a:Act} {c:List (Nat × Bool)} {W w0:World} {m:List MBlk} {o:Oper}
def SlotOK (ρ:Env) (s:Slot) (a:Act) (d:Nat):Prop:=(sat a s.ch→Den ρ s.sv (a.tmps.getD d undef))∧(¬ sat a s.ch→a.tmps.getD d undef=undef)
theorem b19 {ops:Array Oper} {j d:Nat} {og:Oper} {w:Bool} (ho:nth ops.toList j=some og) (hd:og.dst=some d) (hlt:d < a.tmps.size):(yielded ops a.tmps j == some w)=true↔a.tmps.getD d undef=.bool w:=by
 have ho':ops[j]?=some og:=by rw[t0] at ho; simpa using ho
 unfold yielded
 simp only[ho',Option.bind_some,hd]
 have hg:a.tmps[d]?=some a.tmps[d]:=z2m hlt
 rw[hg]
 have e:a.tmps.getD d undef=a.tmps[d]:=by simp[hlt]
 rw[e]
 generalize a.tmps[d]=v
 cases v <;> simp
theorem a7s (w:Bool):Value.bool w≠undef:=by simp[undef]
theorem b3z {d:Nat} {w:Bool} (h:sat a ((d,w) :: c)):a.tmps.getD d undef=.bool w∧sat a c:=⟨h d w (by simp),fun q u hq=>h q u (by simp[hq])⟩
theorem a8g {ops:Array Oper} (hlen:sl.length=a.tmps.size) (hs:∀ g w og d s,o.guard=some (g,w)→nth ops.toList g=some og→og.dst=some d→sl[d]?=some s→SlotOK ρ s a d)
  (h:a42 sl ops.toList o.guard=some (some c)):Region.wanted o (yielded ops a.tmps)=true↔sat a c:=by
 unfold Region.wanted
 unfold a42 at h
 split at h
 ·rename_i hg
  simp only[z0a] at h
  subst h
  simp only[hg,true_iff]
  intro q w hq; cases hq
 ·rename_i j w hg
  split at h
  ·rename_i og hog
   split at h
   ·rename_i d hd
    split at h
    ·rename_i s hsl
     rw[t0] at hsl
     have hlt:d < a.tmps.size:=by rw[← hlen]; exact(z0c.1 hsl).1
     obtain⟨h1,h2⟩:=hs j w og d s hg hog hd hsl
     simp only[hg]
     rw[b19 hog hd hlt]
     by_cases hsat:sat a s.ch
     ·have hden:=h1 hsat
      split at h
      ·rename_i hsv
       simp only[z0a] at h; subst h
       rw[hsv] at hden
       rw[hden.tt_inv]
       simp[hsat]
      ·rename_i hsv
       simp only[z0a] at h; subst h
       rw[hsv] at hden
       rw[hden.ff_inv]
       simp[hsat]
      ·simp at h
      ·simp at h
      ·simp only[z0a] at h
       subst h
       exact⟨fun e=>b3x e hsat,fun e=>(b3z e).1⟩
      ·simp at h
     ·have hun:=h2 hsat
      have hne:a.tmps.getD d undef≠.bool w:=by rw[hun]; exact fun e=>a7s w e.symm
      have hc:¬ sat a c:=by
       split at h <;> first
        | (simp only[z0a] at h; subst h; exact hsat)
        | (simp only[z0a] at h; subst h; exact fun e=>hne (b3z e).1)
        | simp at h
      exact⟨fun e=>absurd e hne,fun e=>absurd e hc⟩
    ·cases h
   ·cases h
  ·cases h
theorem c0k {ops:Array Oper} (hlen:sl.length=a.tmps.size) (hs:∀ g w og d s,o.guard=some (g,w)→nth ops.toList g=some og→og.dst=some d→sl[d]?=some s→SlotOK ρ s a d)
  (h:a42 sl ops.toList o.guard=some none):Region.wanted o (yielded ops a.tmps)=false:=by
 unfold Region.wanted
 unfold a42 at h
 split at h
 ·simp at h
 ·rename_i j w hg
  split at h
  ·rename_i og hog
   split at h
   ·rename_i d hd
    split at h
    ·rename_i s hsl
     rw[t0] at hsl
     have hlt:d < a.tmps.size:=by rw[← hlen]; exact(z0c.1 hsl).1
     obtain⟨h1,h2⟩:=hs j w og d s hg hog hd hsl
     simp only[hg]
     rw[z0z,Ne,b19 hog hd hlt]
     by_cases hsat:sat a s.ch
     ·have hden:=h1 hsat
      split at h
      ·simp at h
      ·simp at h
      ·rename_i hsv; rw[hsv] at hden; rw[hden.tt_inv]; simp
      ·rename_i hsv; rw[hsv] at hden; rw[hden.ff_inv]; simp
      ·simp at h
      ·simp at h
     ·rw[h2 hsat]; exact fun e=>a7s w e.symm
    ·cases h
   ·cases h
  ·cases h
theorem c34 {p:Prop} {d:List (Nat × Bool)} (hd:sat a d) (hok:b2k sl c d=true) (hc:sat a c) (hs:∀ q∈d.map (·.1),∀ s,sl[q]?=some s→SlotOK ρ s a q) (h:b0y sl d p):p:=by
 induction d with
 | nil=>exact h
 | cons x r ih =>
  obtain⟨q,w⟩:=x
  obtain⟨h1,h2⟩:=b3z hd
  simp only[b2k,z0d] at hok
  have hs':∀ q∈r.map (·.1),∀ s,sl[q]?=some s→SlotOK ρ s a q:=fun q' hq=>hs q' (by simp only[z2b]; exact z0w _ hq)
  simp only[b0y] at h
  split at h
  ·rename_i s hsl
   have hok1:=hok.1
   rw[hsl] at hok1
   simp only at hok1
   rw[t0] at hsl
   have hden:=(hs q (by simp) s hsl).1 (b5w hok1 hc)
   split at h
   ·rename_i x hx
    rw[hx] at hden
    have:=hden.b_inv
    rw[h1] at this
    simp only[Value.bool.injEq] at this
    exact ih h2 hok.2 hs' (h this.symm)
   ·exact ih h2 hok.2 hs' h
  ·exact ih h2 hok.2 hs' h
theorem c09 {ps:List Prop} {d:List (Nat × Bool)} (hd:sat a d) (hok:b2k sl c d=true) (hc:sat a c) (hs:∀ q∈d.map (·.1),∀ s,sl[q]?=some s→SlotOK ρ s a q) (h:∀ q∈a6r sl d ps,q):∀ p∈ps,p:=by
 induction ps with
 | nil=>intro p hp; cases hp
 | cons x r ih =>
  simp only[a6r,z0s,forall_eq_or_imp] at h
  intro p hp
  rcases z0s.1 hp with rfl | hp
  ·exact c34 hd hok hc hs h.1
  ·exact ih h.2 p hp
theorem b2j {d:Nat} {c:List (Nat × Bool)}:a8a d c=true↔d ∉ c.map (·.1):=by
 induction c with
 | nil=>simp[a8a]
 | cons x r ih =>
  obtain⟨q,w⟩:=x
  simp only[a8a,z0d,ih,z2b,z0s,not_or]
  constructor
  ·rintro ⟨h1,h2⟩
   exact⟨fun e=>by subst e; simp at h1,h2⟩
  ·rintro ⟨h1,h2⟩
   refine⟨?_,h2⟩
   cases hb:Nat.beq q d
   ·rfl
   ·exact absurd (z0b hb).symm h1
theorem a2t {dst:Option Nat} {s:Slot} {sl':List Slot} (h:a58 sl dst s=some sl'):sl'.length=sl.length∧(∀ d,dst=some d→d < sl.length)∧∀ e,sl'[e]?=if dst=some e then some s else sl[e]?:=by
 unfold a58 at h
 cases dst with
 | none=>simp only[z0a] at h; subst h; simp
 | some d =>
  simp only at h
  split at h
  ·rename_i x hx
   simp only[z0a] at h
   subst h
   rw[t0] at hx
   have hlt:=(z0c.1 hx).1
   refine⟨d8 _ _ _,fun e he=>by simp only[z0a] at he; subst he; exact hlt,fun e=>?_⟩
   rw[j7]
   by_cases h:e=d
   ·subst h; simp[hlt]
   ·rw[if_neg (by omega),if_neg (by simp; omega)]
  ·cases h
theorem b45 {T:Tab} {dst:Option Nat} {v:SV} {ps:List Prop} (h:∀ p∈b9o T dst v ps,p):(∀ p∈ps,p)∧∀(σ:Env) (u:Value),Den σ v u→Den σ (b5x T dst v) u:=by
 cases dst with
 | none=>exact⟨h,fun _ _ hd=>hd⟩
 | some d =>
  simp only[b9o,b5x] at h ⊢
  cases hm:y4 d T.sure
  ·simp only[hm,z0m] at h ⊢
   exact⟨h,fun _ _ hd=>hd⟩
  ·simp only[hm,z0f] at h ⊢
   cases v <;> first | exact⟨h,fun _ _ hd=>hd⟩ | skip
   rename_i x
   have hx:x=true:=h _ z1h
   subst hx
   exact⟨fun p hp=>h p (z0w _ hp),fun σ u hd=>by rw[hd.b_inv]; exact .tt⟩
theorem b8u {ops:Array Oper} {ps:List Prop} {sl':List Slot} {m':List MBlk} (hT:TabOk P T) (hG:GlobOk T ρ) (hS:∀ g,ρ.S g→g < W.heap.size) (hblk:∀ r k,m[r]?=some k→ρ r≠none→BR ρ W r k)
  (hlen:sl.length=a.tmps.size) (hs:∀ t∈y8 sl ops.toList o,∀ s,sl[t]?=some s→SlotOK ρ s a t) (hf:∀ r,m.length≤r→r < m'.length→ρ r=none)
  (h:opA T ops.toList sl m o=some (ps,sl',m')) (hp:∀ p∈ps,p) :
  ∃(c:List (Nat × Bool)) (sv:SV) (new:List MBlk),m'=m ++ new∧a58 sl o.dst ⟨c,sv⟩=some sl'∧(∀ q∈c.map (·.1),q∈y8 sl ops.toList o)∧(∀ d,o.dst=some d→d ∉ c.map (·.1))∧s8 o.dst sl=true ∧
   (Region.wanted o (yielded ops a.tmps)=true→sat a c∧OpTo P a o W (StepPost ρ W m.length sv new))∧(Region.wanted o (yielded ops a.tmps)=false→¬ sat a c∨(c=[]∧sv=.dead)):=by
 have hguard:∀ g w og d s,o.guard=some (g,w)→nth ops.toList g=some og→og.dst=some d→sl[d]?=some s→SlotOK ρ s a d:=fun g w og d s hg hog hd hsd =>
  hs d (by simp only[y8,hg,hog,hd,z0n]; exact .inl (.inr (by simp))) s hsd
 have hops:OpsOk ρ sl a o.op.operands.toList:=fun t s ht hn hsat=>by
  rw[t0] at hn
  refine(hs t ?_ s hn).1 hsat
  simp only[y8,z0n]
  exact .inl (.inl (List.mem_filterMap.2 ⟨_,ht,rfl⟩))
 unfold opA at h
 simp only[a9s] at h
 split at h
 ·rename_i c hc
  cases hk:(b2k sl c c && s8 o.dst sl && a7i o.dst c)
  ·simp[hk] at h
  ·rw[hk] at h
   simp only[z0f] at h
   simp only[z0d] at hk
   obtain⟨⟨k1,k2⟩,k3⟩:=hk
   have hlk:∀ q∈c.map (·.1),q∈y8 sl ops.toList o:=fun q hq=>by
    simp only[y8,hc,z0n]
    exact .inr hq
   split at h
   ·rename_i ar har
    split at h
    ·rename_i sl1 hput
     simp only[z0a,z0g] at h
     obtain⟨rfl,rfl,rfl⟩:=h
     have hw:=a8g hlen hguard hc
     have hsu:=b45 (T:=T) (dst:=o.dst) (v:=ar.sv) (ps:=ar.pre)
     refine⟨c,b5x T o.dst ar.sv,ar.new,rfl,hput,hlk,fun d hd=>by rw[hd] at k3; exact b2j.1 (by simpa [a7i] using k3),k2,fun hwant=>?_,fun hwant=>?_⟩
     ·have hsat:=hw.1 hwant
      have hsu:=hsu (c09 hsat k1 hsat (fun q hq s hq'=>hs q (hlk q hq) s hq') hp)
      refine⟨hsat,(b9m hT hG hS hblk (fun r h1 h2=>hf r h1 (by simp; omega)) hops hsat har hsu.1).mono fun v w ⟨g1,σ,g2,g3,g4,g5⟩=>⟨g1,σ,g2,g3,hsu.2 σ v g4,g5⟩⟩
     ·exact .inl fun e=>by rw[hw.2 e] at hwant; cases hwant
    ·cases h
   ·cases h
 ·rename_i hc
  cases hk:s8 o.dst sl
  ·simp[hk] at h
  ·simp only[hk,z0f] at h
   split at h
   ·rename_i sl1 hput
    simp only[z0a,z0g] at h
    obtain⟨rfl,rfl,rfl⟩:=h
    refine⟨[],.dead,[],by simp,hput,fun q hq=>by simp at hq,fun d _=>by simp,rfl,fun hwant=>?_,fun _=>.inr ⟨rfl,rfl⟩⟩
    rw[c0k hlen hguard hc] at hwant
    cases hwant
   ·cases h
 ·cases h
end
end Go.Proofs.YtaeeaniofljmnaaGreatDoor.Sx

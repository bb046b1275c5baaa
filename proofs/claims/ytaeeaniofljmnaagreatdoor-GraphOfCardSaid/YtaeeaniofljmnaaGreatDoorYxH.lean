/-
  A part of the proof (YxH).
-/
import Derived.Test.YtaeeaniofljmnaaGreatDoorYx9
namespace Go.Proofs.YtaeeaniofljmnaaGreatDoor.Sx
set_option linter.unusedSimpArgs false
set_option linter.unusedVariables false
open Go Go.RowKit
abbrev a5a:=List (Nat × Nat × SV)
def a6v:SV→Bool
 | .i _ _=>true
 | .sl _ _=>true
 | _=>false
def HeldIn (rs:a5a) (m:List MBlk):Prop:=∀ h,h∈rs→a6v h.2.2=true→∃ cs,m[h.1]?=some (.cells cs)∧cs[h.2.1]?=some h.2.2
def a4x (rs:a5a):Prop:=∀ h,h∈rs→∀ q n,h.2.2=.sl q n→∃ h',h'∈rs∧h'.1=q
def d2d (ρ:Env) (rs:a5a):World→Prop:=fun w=>∀ h,h∈rs→a6v h.2.2=true→∀ g c v,ρ h.1=some (some ⟨g,0,none⟩,c)→Den ρ h.2.2 v→w.cell? ⟨g,h.2.1,none⟩=some v
def c1z (W:World) (g:Nat):Prop:=∃ c e p,W.heap[g]?=some (.cells c e p)
def a50 (ρ:Env) (W1:World) (rs:a5a):World→Prop:=fun w=>d2d ρ rs w∧∀ g,ρ.S g→c1z W1 g→w.heap[g]?=W1.heap[g]?
def strongK (B:Lim) (ρ:Env) (W:World):Lim:=⟨fun g=>ρ.S g∧(B.keep g∨c1z W g),ρ.R⟩
theorem MR.strongK {B:Lim} {w0 W:World} {ρ:Env} {m:List MBlk} (h:MR B w0 W ρ m):MR (strongK B ρ W) W W ρ m:=⟨fun _ h=>h.1,fun _ h=>.inl h,h.hS,.refl _ _,h.blk,h.dom,h.xlt,h.xsep,h.xown,h.sep⟩
theorem MR.backK {B:Lim} {w0 W W':World} {ρ σ:Env} {m m':List MBlk} (h:MR B w0 W ρ m) (k:MR (Sx.strongK B ρ W) W W' σ m'):MR B w0 W' σ m':=
 ⟨fun g hg=>k.sub g ⟨h.sub g hg,.inl hg⟩,fun g hg=>by
  rcases k.rows g hg with h1 | h1
  ·exact h.rows g h1
  ·exact .inr fun hk=>h1 ⟨h.sub g hk,.inl hk⟩,k.hS,h.below.trans ⟨k.below.os,k.below.tape,k.below.output,k.below.size,fun g hg=>k.below.block g ⟨h.sub g hg,.inl hg⟩⟩,k.blk,k.dom,k.xlt,k.xsep,k.xown,k.sep⟩
theorem DfOk.strongK {B:Lim} {ρ:Env} {a:Act} {W:World} (h:DfOk B ρ a W):DfOk (Sx.strongK B ρ W) ρ a W:=by
 obtain⟨Ds,h1,h2,h3⟩:=h
 refine⟨Ds,h1,h2,fun D hD=>?_⟩
 obtain⟨q1,q2,q3⟩:=h3 D hD
 refine⟨q1,fun hk=>?_,q3⟩
 rcases hk.2 with hk | ⟨c,e,p,hk⟩
 ·exact q2 hk
 ·rw[q3] at hk; cases hk
theorem DfOk.backK {B:Lim} {w0 W W':World} {ρ σ:Env} {m:List MBlk} {a:Act} (hm:MR B w0 W ρ m) (h:DfOk (Sx.strongK B ρ W) σ a W'):DfOk B σ a W':=by
 obtain⟨Ds,h1,h2,h3⟩:=h
 exact⟨Ds,h1,h2,fun D hD=>by obtain⟨q1,q2,q3⟩:=h3 D hD; exact⟨q1,fun hk=>q2 ⟨hm.sub D hk,.inl hk⟩,q3⟩⟩
theorem HeldIn.app {rs:a5a} {m:List MBlk} (h:HeldIn rs m) (new:List MBlk):HeldIn rs (m ++ new):=fun x hx hv=>by
 obtain⟨cs,h1,h2⟩:=h x hx hv
 exact⟨cs,by rw[z0t (z0c.1 h1).1]; exact h1,h2⟩
theorem c49 {rs:a5a} {d:List Nat} (h:b3h rs d=true):∀ x∈rs,a6v x.2.2=true→x.1 ∉ d:=by
 induction rs with
 | nil=>intro x hx; cases hx
 | cons y r ih =>
  intro x hx hv
  simp only[b3h,z0d,z1r,z0x] at h
  rcases z0s.1 hx with rfl | hx
  ·intro hm
   rcases h.1 with h1 | h1
   ·obtain⟨x1,x2,y⟩:=x
    cases y <;> simp[a6v] at h1 hv
   ·rw[a0s.2 hm] at h1
    cases h1
  ·exact ih h.2 x hx hv
theorem c1v {u:List (Nat × MBlk)}:∀ {m:List MBlk} {r:Nat},r ∉ u.map (·.1)→(t4 m u)[r]?=m[r]?:=by
 induction u with
 | nil=>intro m r _; rfl
 | cons p u ih =>
  intro m r hr
  obtain⟨q,k⟩:=p
  simp only[z2b,z0s,not_or] at hr
  simp only[t4]
  rw[ih hr.2,j7,if_neg (by omega)]
theorem d3h {l:List Nat}:∀ {g:List Nat},a1t l g=true→∀ r∈g,y4 r l=false:=by
 intro g
 induction g with
 | nil=>intro _ r hr; cases hr
 | cons x g ih =>
  intro h r hr
  simp only[a1t,z0d,z0x] at h
  rcases z0s.1 hr with rfl | hr
  ·exact h.1
  ·exact ih h.2 r hr
theorem HeldIn.opB {T:Tab} {ops:List Oper} {rs:a5a} {sl sl':List Slot} {m m':List MBlk} {o:Oper} {ps:List Prop} {ds:List Nat} (h:HeldIn rs m) (hcl:a4x rs) (hpr:∀ x∈rs,x.1∈a0z T) (hB:opB T ops sl m o=some (ps,sl',m',ds)) (hn:b3h rs ds=true):HeldIn rs m':=by
 unfold Sx.opB at hB
 split at hB
 ·cases hdf:s8 o.dst sl
  ·simp[hdf] at hB
  ·simp only[hdf,z0f] at hB
   split at hB
   ·rename_i b hb
    cases hgf:a1t b.kill (a0z T)
    ·simp[hgf] at hB
    ·simp only[hgf,z0f] at hB
     split at hB
     ·simp only[z0a,z0g] at hB
      obtain⟨rfl,rfl,rfl,rfl⟩:=hB
      rw[a9s]
      refine HeldIn.app (fun x hx hv=>?_) _
      obtain⟨cs,h1,h2⟩:=h x hx hv
      refine⟨q9 b.kill cs,?_,?_⟩
      ·rw[c1v (c49 hn x hx hv),a19,h1]; rfl
      ·rw[a09,h2]
       have key:a3w b.kill x.2.2=x.2.2:=by
        have hc:=hcl x hx
        revert hv hc
        generalize x.2.2=y
        intro hv hc
        cases y <;> simp only[a6v,z2s] at hv
        ·rfl
        ·obtain⟨h',h3,h4⟩:=hc _ _ rfl
         have:=d3h hgf _ (hpr h' h3)
         rw[h4] at this
         simp[a3w,SV.refs,this]
       simp[key]
     ·cases hB
   ·cases hB
 ·cases hB
theorem a9p {k L:Nat}:∀ {l:List Nat} {b:Nat},a4i k L b l=true→∀ {j a:Nat},l[j]?=some a→∀ i,i < b + j→k≤i→Nat.testBit L i=false→Nat.testBit a i=true:=by
 intro l
 induction l with
 | nil=>intro b _ j a h; simp at h
 | cons x r ih =>
  intro b h j a hj i hi hk hL
  simp only[a4i,z0d] at h
  cases j with
  | zero =>
   simp at hj
   subst hj
   have h1:=z0b h.1
   have h2:=congrArg (fun n=>Nat.testBit n i) h1
   simp only[Nat.testBit_and,Nat.testBit_or,Nat.one_shiftLeft,Nat.testBit_two_pow_sub_one] at h2
   have h3:decide (i < b)=true:=by simp; omega
   have h4:decide (i < k)=false:=by simp; omega
   simpa [h3,h4,hL] using h2
  | succ j=>exact ih h.2 (by simpa using hj) i (by omega) hk hL
theorem c0q {n:Nat}:∀ {l:List Oper} {i j:Nat},Nat.testBit (b36 n i l) j=true→j < n∧∃ o,i≤j∧l[j - i]?=some o∧b01 o=true:=by
 intro l
 induction l with
 | nil=>intro i j h; simp[b36] at h
 | cons o r ih =>
  intro i j h
  simp only[b36,Nat.testBit_or,z1r] at h
  rcases h with h | h
  ·cases hc:(b01 o && Nat.blt i n) <;> rw[hc] at h
   ·simp at h
   ·simp only[z0f,Nat.one_shiftLeft,Nat.testBit_two_pow,z1p] at h
    subst h
    simp only[z0d,z0u] at hc
    exact⟨hc.2,o,z0q _,by simp,hc.1⟩
  ·obtain⟨h1,o',h2,h3,h4⟩:=ih h
   refine⟨h1,o',by omega,?_,h4⟩
   rw[show j - i=(j - (i + 1)) + 1 by omega]
   simpa using h3
theorem a5x {ops:Array Oper} {L0:Nat} {lst:Array Bool}:∀ {n j:Nat},Nat.testBit (a6z ops L0 lst n) j=true→j < n∧Nat.testBit L0 j=true∧Region.free .any ops lst j=true:=by
 intro n
 induction n with
 | zero=>intro j h; simp[a6z] at h
 | succ n ih =>
  intro j h
  simp only[a6z,Nat.testBit_or,z1r] at h
  rcases h with h | h
  ·cases hc:(Nat.testBit L0 n && Region.free .any ops lst n) <;> rw[hc] at h
   ·simp at h
   ·simp only[z0f,Nat.one_shiftLeft,Nat.testBit_two_pow,z1p] at h
    subst h
    simp only[z0d] at hc
    exact⟨Nat.lt_succ_self _,hc.1,hc.2⟩
  ·obtain⟨h1,h2⟩:=ih h
   exact⟨by omega,h2⟩
theorem c01 {size L:Nat}:∀ {n j:Nat},j < size→(a9r size L n).getD j true=true→j < n∧Nat.testBit L j=false:=by
 intro n
 induction n with
 | zero=>intro j hj h; simp[a9r,hj] at h
 | succ n ih =>
  intro j hj h
  simp only[a9r] at h
  cases hb:Nat.testBit L n <;> rw[hb] at h
  ·simp only[z0m] at h
   by_cases e:j=n
   ·subst e; exact⟨Nat.lt_succ_self _,hb⟩
   ·rw[getD_set_ne true (Ne.symm e)] at h
    obtain⟨h1,h2⟩:=ih hj h
    exact⟨by omega,h2⟩
  ·obtain⟨h1,h2⟩:=ih hj h
   exact⟨by omega,h2⟩
theorem c3f {ops:Array Oper} {l1 l2:Array Bool} {i:Nat} (h:Region.free .any ops l1 i=true) (hl:∀ j,j < ops.size→l1.getD j true=true→l2.getD j true=true):Region.free .any ops l2 i=true:=by
 unfold Region.free at h ⊢
 split at h
 ·cases h
 ·rename_i oi hoi
  simp only[hoi,z2k,z2q,z1r] at h ⊢
  intro j hj
  rcases h j hj with(h1 | h1) | h1
  ·exact .inl (.inl h1)
  ·exact .inl (.inr (hl j hj h1))
  ·exact .inr h1
theorem c3x {P:Program} {o:Oper} {a:Act} {W:World} {K:Act→World→Prop} (hl:b01 o=true) (h:o.wp P a W K (fun _ _ _=>False)∨(o.asks P a W∧LetsOut (fun _ _ _=>False))):∃ v,(∀ w,(execOp a.eval o).run P w=.ok (.value v) w)∧K (a.put o.dst v) W:=by
 have hw:o.wp P a W K (fun _ _ _=>False):=h.elim id fun⟨_,_,_,hf⟩=>hf.elim
 unfold b01 at hl
 split at hl
 ·cases hl
 ·split at hl
  ·rename_i x ho
   have hx:∀ w,(execOp a.eval o).run P w=.ok (.value (a.eval x)) w:=fun w=>by simp[execOp,ho]
   refine⟨a.eval x,hx,?_⟩
   unfold Oper.wp at hw
   rw[hx W,Oper.upon_value] at hw
   exact hw
  ·rename_i x k ho
   cases hv:a.eval x with
   | tuple vs =>
    cases hk:vs[k]? with
    | some v =>
     have hx:∀ w,(execOp a.eval o).run P w=.ok (.value v) w:=fun w=>by simp[execOp,ho,hv,Instr.extract,hk]
     refine⟨v,hx,?_⟩
     unfold Oper.wp at hw
     rw[hx W,Oper.upon_value] at hw
     exact hw
    | none=>exact(by simp[Oper.wp,execOp,ho,hv,Instr.extract,hk,Oper.upon] at hw)
   | _=>exact(by simp[Oper.wp,execOp,ho,hv,Instr.extract,Oper.upon] at hw)
  ·cases hl
section
variable {P:Program} {T:Tab} {B:Lim} {w0:World}
theorem d03 {ops:Array Oper} {Q:Exit→Act→World→Prop} {an:List Nat} (han:an=u5 ops.toList []) (hed:z8 0 ops.toList=true) {SS:World→Prop} {rs:List (Nat × Nat × SV)} {T:Tab} (hT:TabOk P T) (hSS:∀(sl:List Slot) (m:List MBlk) (ρ:Env) (a:Act) (W:World),Rel T B w0 ρ sl m a W→HeldIn rs m→SS W) (hclo:a4x rs) (hpr:∀ x∈rs,x.1∈a0z T) {n0 kk LL:Nat} (hkk:kk≤n0) (hLL:∀ i,Nat.testBit LL i=true→i < n0) (htl:a4i kk LL n0 (a12 n0 an)=true) :
  ∀(l:List Oper) (b:Nat) (s s':St) (ps:List Prop) (fuel:Nat) (listed:Array Bool) (ρ:Env) (a:Act) (W:World),n0≤b→b≤ops.toList.length→l=ops.toList.drop b→b4v T ops.toList rs l s=some (ps,s')→(∀ p∈ps,p) →
   Rel T B w0 ρ s.slots s.mem a W→HeldIn rs s.mem→listed.size=ops.toList.length→(∀ j,j < ops.toList.length→(listed.getD j false=true↔j < b))→ops.toList.length≤fuel + b →
   (∀ ρ a W,Rel T B w0 ρ (clean s'.slots) s'.mem a W→Q .normal a W)→wpAnyH P .any ops Q SS fuel listed a W:=by
 intro l
 induction l with
 | nil =>
  intro b s s' ps fuel listed ρ a W h0 hbl hl h _ hr hhd hsz hls _ hQ
  simp only[b4v,z0a,z0g] at h
  obtain⟨rfl,rfl⟩:=h
  have hb:b=ops.toList.length:=by
   have:(ops.toList.drop b).length=0:=by rw[← hl]; rfl
   rw[z3u] at this
   omega
  have hnone:Region.ready .any ops listed=[]:=by
   apply z2t.2
   intro i hi
   obtain⟨h1,o,ho,_⟩:=mem_ready.1 hi
   have hil:i < ops.toList.length:=by
    have:=(z0j.1 ho).1
    simpa using this
   rw[m4 (by omega),(hls i hil).2 (by omega)] at h1
   cases h1
  have hfin:=hQ ρ a W ⟨hr.fr.clean,hr.mr,hr.gl,hr.df⟩
  cases fuel with
  | zero=>exact⟨hnone,hfin⟩
  | succ f=>exact⟨fun _=>hfin,fun i hi=>by rw[hnone] at hi; cases hi⟩
 | cons o l ih =>
  intro b s s' ps fuel listed ρ a W h0 hbl hl h hp hr hhd hsz hls hfu hQ
  have hb:b < ops.toList.length:=by
   have:(ops.toList.drop b).length=l.length + 1:=by rw[← hl]; rfl
   rw[z3u] at this
   omega
  have ho:ops.toList[b]?=some o:=by
   have:(ops.toList.drop b)[0]?=some o:=by rw[← hl]; rfl
   simpa using this
  have hl':l=ops.toList.drop (b + 1):=by
   have:(ops.toList.drop b).drop 1=l:=by rw[← hl]; rfl
   rw[← this,List.drop_drop]
  have hanl:an.length=ops.toList.length:=by rw[han]; have:=(x9 ops.toList []).1; simpa using this
  have hcl:∀ j aj,an[j]?=some aj→listed.getD j true=true→∀ k,Nat.testBit aj k=true→listed.getD k false=true:=fun j aj haj hlj k hk=>by
   have hjl:j < ops.toList.length:=by
    have:=(z0c.1 haj).1
    omega
   rw[m4 (by omega)] at hlj
   have h1:=(hls j hjl).1 hlj
   have h2:=b67 han hed j aj haj k hk
   exact(hls k (by omega)).2 (by omega)
  have honly:∀ i∈Region.ready .any ops listed,i=b:=fun i hi=>by
   obtain⟨h1,o',ho',_⟩:=mem_ready.1 hi
   have hil:i < ops.toList.length:=by
    have:=(z0j.1 ho').1
    simpa using this
   have hib:¬ i < b:=fun hib=>by
    rw[m4 (by omega),(hls i hil).2 hib] at h1
    cases h1
   refine Classical.byContradiction fun hne=>?_
   obtain⟨ai,hai⟩:∃ ai,an[i]?=some ai:=⟨_,z0i (by omega)⟩
   have hd:(a12 n0 an)[i - n0]?=some ai:=by
    rw[a3o,z1n,show n0 + (i - n0)=i by omega]
    exact hai
   have:=a3f han hed hcl hsz hi hai b (a9p htl hd b (by omega) (by omega) (z0z.2 fun h=>by have:=hLL b h; omega))
   have:=(hls b hb).1 this
   omega
  have ho2:ops[b]?=some o:=by simpa using ho
  have hnext:∀ j,j < ops.toList.length→((listed.setIfInBounds b true).getD j false=true↔j < b + 1):=fun j hj=>by
   by_cases e:j=b
   ·subst e
    have hlt:j < listed.size:=by omega
    simp[hlt]
   ·rw[getD_set_ne false (Ne.symm e),hls j hj]
    omega
  have hstep:∀ f,ops.toList.length≤f + (b + 1)→if Region.wanted o (yielded ops a.tmps) then o.wp P a W (fun a' w'=>SS w'∧wpAnyH P .any ops Q SS f (listed.setIfInBounds b true) a' w') Q else(SS W∧wpAnyH P .any ops Q SS f (listed.setIfInBounds b true) (a.put o.dst undef) W):=fun f hf=>by
   simp only[b4v] at h
   split at h
   ·rename_i ps1 sl1 m1 hA
    split at h
    ·rename_i qs s1 hrest
     simp only[z0a,z0g] at h
     obtain⟨rfl,rfl⟩:=h
     have hhd1:HeldIn rs m1:=by
      obtain⟨new,hnew⟩:=(a0l hA).1
      rw[hnew]; exact hhd.app new
     exact b1t (P:=P) (ops:=ops) (Q:=Q) (K:=fun a' w'=>SS w'∧wpAnyH P .any ops Q SS f (listed.setIfInBounds b true) a' w') hT hr hA (fun p h=>hp p (z0n.2 (.inl h))) fun ρ' a' W' hr' =>
      ⟨hSS _ _ _ _ _ hr' hhd1,ih (b + 1) ⟨sl1,m1,s.dirty⟩ s1 qs f _ ρ' a' W' (by omega) (by omega) hl' hrest (fun p h=>hp p (z0n.2 (.inr h))) hr' hhd1 (by simpa using hsz) hnext hf hQ⟩
    ·cases h
   ·split at h
    ·rename_i ps1 sl1 m1 ds hB
     cases hni:b3h rs ds
     ·rw[hni] at h; cases h
     rw[hni,z0f] at h
     have hhd1:HeldIn rs m1:=hhd.opB hclo hpr hB hni
     split at h
     ·rename_i qs s1 hrest
      simp only[z0a,z0g] at h
      obtain⟨rfl,rfl⟩:=h
      exact b1u (P:=P) (ops:=ops) (Q:=Q) (K:=fun a' w'=>SS w'∧wpAnyH P .any ops Q SS f (listed.setIfInBounds b true) a' w') hT hr hB (fun p h=>hp p (z0n.2 (.inl h))) fun ρ' a' W' hr' =>
       ⟨hSS _ _ _ _ _ hr' hhd1,ih (b + 1) ⟨sl1,m1,ds ++ s.dirty⟩ s1 qs f _ ρ' a' W' (by omega) (by omega) hl' hrest (fun p h=>hp p (z0n.2 (.inr h))) hr' hhd1 (by simpa using hsz) hnext hf hQ⟩
     ·cases h
    ·cases h
  have step:∀(f:Nat),ops.toList.length≤f + (b + 1)→∀ i∈Region.ready .any ops listed,wpOp P ops Q i (fun a' w'=>SS w'∧wpAnyH P .any ops Q SS f (listed.setIfInBounds i true) a' w') a W:=fun f hf i hi=>by
   obtain rfl:=honly i hi
   have key:=hstep f hf
   unfold wpOp
   simp only[ho2]
   split
   ·rename_i hw
    rw[if_pos hw] at key
    exact .inl key
   ·rename_i hw
    rw[if_neg hw] at key
    exact key
  have hne:Region.ready .any ops listed≠[]:=fun hn=>by
   have hmem:b∈Region.ready .any ops listed:=mem_ready.2 ⟨by
    have:¬ listed.getD b false=true:=fun hh=>by have:=(hls b hb).1 hh; omega
    rw[m4 (by omega)]
    exact z0z.2 this,o,ho2,fun e he hbb=>by
     have:=a0n (a0o hed ho) (e:=e) (by simpa using he) hbb
     exact(hls e.on (by omega)).2 (by omega)⟩
   rw[hn] at hmem
   cases hmem
  cases fuel with
  | zero=>omega
  | succ f=>exact⟨fun hn=>absurd hn hne,step f (by omega)⟩
theorem d00 {ops:Array Oper} {Q:Exit→Act→World→Prop} {an:List Nat} {S:Nat→List Slot} {M:Nat→List MBlk} {p:Nat→List Prop} {ls:List (List Nat)} {s':St} {dirty:List Nat} {ps:List Prop} {SS:World→Prop} {rs:List (Nat × Nat × SV)} {T:Tab} (hT:TabOk P T) (hSS:∀(sl:List Slot) (m:List MBlk) (ρ:Env) (a:Act) (W:World),Rel T B w0 ρ sl m a W→HeldIn rs m→SS W) (hclo:a4x rs) (hpr:∀ x∈rs,x.1∈a0z T) (hSI:∀(ρ:Env) (m:List MBlk) (W:World),MR B w0 W ρ m→GlobOk T ρ→HeldIn rs m→SS W) (hhd:HeldIn rs (M ls.length)) {kk:Nat} (hkk:kk≤ls.length) (hns:Region.noSelect ops=true) (hQp:∀ c a w,¬ Q (.panic c) a w)
  (han:an=u5 ops.toList []) (hed:z8 0 ops.toList=true) (hlk:a04 ops.toList an 0 ls an=true) (hcln:a0c (S 0)=true) (hpre:Pre ops.toList S ls.length)
  (hst:∀ i,i < ls.length→∃ o,ops.toList[i]?=some o∧opA T ops.toList (S i) (M i) o=some (p i,S (i + 1),M (i + 1))∧ls[i]?=some (y8 (S i) ops.toList o)) (hle:ls.length≤ops.toList.length) (hps:∀ i,i < ls.length→∀ q∈p i,q)
  (htl:a4i kk (b6q ops ls.length) ls.length (a12 ls.length an)=true) (hB:b4v T ops.toList rs (ops.toList.drop ls.length) ⟨S ls.length,M ls.length,dirty⟩=some (ps,s')) (hp:∀ q∈ps,q) (hQ:∀ ρ a W,Rel T B w0 ρ (clean s'.slots) s'.mem a W→Q .normal a W) :
  ∀(fuel:Nat) (listed:Array Bool) (a:Act) (W:World),Inv T B w0 ops.toList an S M ls.length listed a W→(∀ j,j < kk→listed.getD j false=true)→ops.toList.length≤fuel + listed.toList.count true→wpAnyH P .any ops Q SS fuel listed a W:=by
 have hanl:an.length=ops.toList.length:=by rw[han]; have:=(x9 ops.toList []).1; simpa using this
 intro fuel
 induction fuel with
 | zero =>
  intro listed a W hI hk0 hf
  exact done 0 listed a W hI (by
   have h1:listed.toList.count true≤ls.length:=cntle listed hI
   omega) (fun j hj=>Classical.byContradiction fun hne=>by
   have:=(b2o hI.size).2 ⟨j,by omega,z0z.2 hne⟩
   omega)
 | succ fuel ih =>
  intro listed a W hI hk0 hf
  by_cases hall:∀ j,j < ls.length→listed.getD j false=true
  ·exact done (fuel + 1) listed a W hI (by
    have h1:listed.toList.count true≤ls.length:=cntle listed hI
    omega) hall
  ·obtain⟨j,hj⟩:=Classical.not_forall.1 hall
   have hjn:j < ls.length:=Classical.byContradiction fun h=>hj (fun h'=>absurd h' h)
   have hjf:listed.getD j false=false:=z0z.2 fun h=>hj (fun _=>h)
   by_cases htl2:∃ i,i∈Region.ready .any ops listed∧ls.length≤i
   ·
    obtain⟨i,hi,hil⟩:=htl2
    have hilt:i < ops.toList.length:=by
     obtain⟨_,o',ho',_⟩:=mem_ready.1 hi
     have:=(z0j.1 ho').1
     simpa using this
    have hlate:∀ k,k < ls.length→listed.getD k false=false→Nat.testBit (b6q ops ls.length) k=true:=fun k hk hkf=>by
     refine Classical.byContradiction fun hne=>?_
     obtain⟨ai,hai⟩:∃ ai,an[i]?=some ai:=⟨_,z0i (by omega)⟩
     have hd:(a12 ls.length an)[i - ls.length]?=some ai:=by
      rw[a3o,z1n,show ls.length + (i - ls.length)=i by omega]
      exact hai
     have hjk:kk≤k:=z1z fun h=>by rw[hk0 k h] at hkf; cases hkf
     have:=a3f han hed hI.closed hI.size hi hai k (a9p htl hd k (by omega) hjk (z0z.2 hne))
     rw[this] at hkf
     cases hkf
    obtain⟨k,hk,hkf,hmin⟩:∃ k,k < ls.length∧listed.getD k false=false∧∀ q,q < k→listed.getD q false=true:=by
     have:∀ b,(∃ k,k < b∧k < ls.length∧listed.getD k false=false)→∃ k,k < ls.length∧listed.getD k false=false∧∀ q,q < k→listed.getD q false=true:=by
      intro b
      induction b with
      | zero=>rintro ⟨k,h,_⟩; omega
      | succ b ihb =>
       rintro ⟨k,h1,h2,h3⟩
       by_cases hex:∃ k,k < b∧k < ls.length∧listed.getD k false=false
       ·exact ihb hex
       ·have hkb:k=b:=by
         refine Classical.byContradiction fun hne=>hex ⟨k,by omega,h2,h3⟩
        subst hkb
        refine⟨k,h2,h3,fun q hq=>?_⟩
        cases hqv:listed.getD q false
        ·exact(hex ⟨q,hq,by omega,hqv⟩).elim
        ·rfl
     exact this (j + 1) ⟨j,Nat.lt_succ_self _,hjn,hjf⟩
    have hbit:=hlate k hk hkf
    obtain⟨_,hb0,hfree⟩:=a5x hbit
    obtain⟨_,o,_,hol,hop⟩:=c0q (n:=ls.length) (l:=ops.toList) (i:=0) (j:=k) (by rw[Nat.testBit_and,z0d] at hb0; exact hb0.1)
    simp only[Nat.sub_zero] at hol
    have ho2:ops[k]?=some o:=by simpa using hol
    have hready:k∈Region.ready .any ops listed:=mem_ready.2 ⟨by rw[m4 (by rw[hI.size]; omega)]; exact hkf,o,ho2,fun e he hbb=>by
     have:=a0n (a0o hed hol) (e:=e) (by simpa using he) hbb
     exact hmin e.on (by omega)⟩
    have hfr2:Region.free .any ops listed k=true:=c3f hfree fun q hq hqv=>by
     obtain⟨q1,q2⟩:=c01 hq hqv
     have hqs:q < listed.size:=by rw[hI.size]; simpa using hq
     rw[m4 hqs]
     cases hqf:listed.getD q false
     ·have hb:=hlate q q1 hqf
      rw[(a5x hb).2.1] at q2
      cases q2
     ·rfl
    have hstep:=b31 (Q:=fun _ _ _=>False) (K:=fun a' W'=>Inv T B w0 ops.toList an S M ls.length (listed.setIfInBounds k true) a' W') hT han hed hlk hcln hpre hst hle hps hI hk hready fun a' W' h=>h
    have hgd:o.guard=none:=by
     unfold b01 at hop
     split at hop
     ·cases hop
     ·assumption
    have hwant:Region.wanted o (yielded ops a.tmps)=true:=by simp[Region.wanted,hgd]
    unfold wpOp at hstep
    simp only[ho2,hwant,if_true] at hstep
    obtain⟨v,hv1,hv2⟩:=c3x hop hstep
    have hSW:SS W:=by obtain⟨ρ',_,_,q1,q2,_⟩:=hI.rel; exact hSI ρ' _ W q1 q2 hhd
    refine wpAnyH_take ho2 hns hfr2 (by simpa using hready) (fun c a w hq=>absurd hq (hQp _ _ _)) (.inl ⟨hwant,fun w _=>hv1 w⟩) hSW (ih _ _ W hv2 (fun j hj=>getD_set_true (hk0 j hj)) ?_)
    rw[a8v (by rw[hI.size]; omega) hkf]
    omega
   refine⟨fun hn=>?_,fun i hi=>?_⟩
   ·
    have least:∀ k,k < ls.length→listed.getD k false=true:=by
     intro k
     induction k using Nat.strongRecOn with
     | _ k ihk =>
      intro hk
      refine Classical.byContradiction fun hkf=>?_
      obtain⟨o,ho,_⟩:=hst k hk
      have:k∈Region.ready .any ops listed:=mem_ready.2 ⟨by rw[m4 (by rw[hI.size]; omega)]; exact z0z.2 hkf,o,by simpa using ho,fun e he hbb=>by
       have:=a0n (a0o hed ho) (e:=e) (by simpa using he) hbb
       exact ihk e.on (by omega) (by omega)⟩
      rw[hn] at this
      cases this
    rw[least j hjn] at hjf
    cases hjf
   ·obtain⟨h1,o',ho',_⟩:=mem_ready.1 hi
    have hil:i < ops.toList.length:=by
     have:=(z0j.1 ho').1
     simpa using this
    have hin:i < ls.length:=Nat.lt_of_not_le fun h=>htl2 ⟨i,hi,h⟩
    refine b31 hT han hed hlk hcln hpre hst hle hps hI hin hi fun a' W' hI'=>⟨(by obtain⟨ρ',_,_,q1,q2,_⟩:=hI'.rel; exact hSI ρ' _ W' q1 q2 hhd),ih _ a' W' hI' (fun j hj=>getD_set_true (hk0 j hj)) ?_⟩
    rw[a8v (by rw[hI.size]; omega) (by rw[← m4 (by rw[hI.size]; omega)]; exact h1)]
    omega
where
 cntle (listed:Array Bool) {a:Act} {W:World} (hI:Inv T B w0 ops.toList an S M ls.length listed a W):listed.toList.count true≤ls.length:=by
  have e:listed.toList.count true=(listed.toList.take ls.length).count true + (listed.toList.drop ls.length).count true:=by
   rw[← List.count_append,z2w]
  have h0:(listed.toList.drop ls.length).count true=0:=by
   rw[List.count_eq_zero]
   intro hm
   obtain⟨j,hj⟩:=z3m.1 hm
   rw[z1n] at hj
   have hlt:=(z0c.1 hj).1
   have hsz:listed.toList.length=ops.toList.length:=by rw[← hI.size]; simp
   have:=hI.tail (ls.length + j) (by omega) (by omega)
   simp at hj
   simp[hj] at this
  have h1:(listed.toList.take ls.length).count true≤(listed.toList.take ls.length).length:=List.count_le_length
  rw[List.length_take] at h1
  omega
 done (fuel:Nat) (listed:Array Bool) (a:Act) (W:World) (hI:Inv T B w0 ops.toList an S M ls.length listed a W) (hf:ops.toList.length≤fuel + ls.length) (hall:∀ j,j < ls.length→listed.getD j false=true):wpAnyH P .any ops Q SS fuel listed a W:=by
  obtain⟨ρ,hsz,hcur,hmr,hgl,hdf,_⟩:=hI.rel
  have hiff:∀ j,j < ops.toList.length→(listed.getD j false=true↔j < ls.length):=by
   intro j hj
   constructor
   ·intro h
    refine Classical.byContradiction fun hne=>?_
    have:=hI.tail j (by omega) hj
    rw[m4 (by rw[hI.size]; exact hj),h] at this
    cases this
   ·exact hall j
  refine d03 han hed hT hSS hclo hpr hkk (fun i hi=>(a5x hi).1) htl _ ls.length ⟨S ls.length,M ls.length,dirty⟩ s' ps fuel listed ρ a W (z0q _) hle rfl hB hp ⟨⟨by rw[hpre.len _ (z0q _),hsz],fun d s hs=>hcur d s ?_⟩,hmr,hgl,hdf⟩ hhd hI.size hiff hf hQ
  by_cases hw:∃ j oj,j < ls.length∧ops.toList[j]?=some oj∧oj.dst=some d
  ·obtain⟨j,oj,hjn,hoj,hdj⟩:=hw
   refine .inl ⟨j,oj,hjn,hall j hjn,hoj,hdj,?_⟩
   rw[← hs]
   exact(hpre.keep (j + 1) ls.length (by omega) (z0q _) fun k ok hk hki hok hdk=>by
    have:=a2g hpre.dsts hoj hok hdj hdk
    omega).symm
  ·refine .inr ⟨fun j oj hjn _ hoj hdj=>hw ⟨j,oj,hjn,hoj,hdj⟩,?_⟩
   rw[← hs]
   exact(hpre.keep 0 ls.length (by omega) (z0q _) fun k ok _ hki hok hdk=>hw ⟨k,ok,hki,hok,hdk⟩).symm
theorem b85 {ρ0 ρ:Env} {x:SV} {u v:Value} (hx:a6v x=true) (hp:∀ q n,x=.sl q n→∀ y,ρ0 q=some y→ρ q=some y) (h0:Den ρ0 x v) (h1:Den ρ x u):u=v:=by
 cases x <;> simp only[a6v,z2s] at hx
 ·rw[h0.i_inv,h1.i_inv]
 ·cases h0 with
  | sl e0 _=>cases h1 with
   | sl e1 _ =>
    have:=hp _ _ rfl _ e0
    rw[this] at e1
    simp only[z0a,z0g] at e1
    rw[e1.1,e1.2]
theorem b30 {ρ0 ρ:Env} {rs:a5a} {m:List MBlk} {W:World} (hm:MR B w0 W ρ m) (hh:HeldIn rs m) (hcl:a4x rs) (hp:∀ h,h∈rs→∀ y,ρ0 h.1=some y→ρ h.1=some y):d2d ρ0 rs W:=fun h hr hv g c v hg hd0=>by
 obtain⟨cs,h1,h2⟩:=hh h hr hv
 have hρ:=hp h hr _ hg
 obtain⟨g',ty,vs,c',e1,_,e3,e4⟩:=hm.blk h.1 _ h1 (by rw[hρ]; simp)
 rw[hρ] at e1
 simp only[z0a,z0g,z2a,and_true] at e1
 obtain⟨rfl,rfl⟩:=e1
 obtain⟨u,hu,hd⟩:=e4.get h2
 rw[cell_of_row W g h.2.1 vs.toArray ty (0,0) e3]
 have e:=b85 (ρ0:=ρ0) (ρ:=ρ) hv (fun q n hq y hy=>by
  obtain⟨h',k1,k2⟩:=hcl h hr q n hq
  have:=hp h' k1 y (by rw[k2]; exact hy)
  rwa [k2] at this) hd0 hd
 rw[← e]
 simpa using hu
theorem b51 {w W:World} {g:Nat} (h:w.heap[g]?=W.heap[g]?) {a:Addr} (ha:a.block=g):w.cell? a=W.cell? a:=by
 subst ha
 unfold World.cell?
 rw[h]
theorem b5f {ρ:Env} {W:World} {t:Nat} {ti:TI} {cs:List SV} {off:Nat} {v:SV} {b:Addr} (ht:a0t P t ti=true) (h:loadAt ti cs off=some v) (hcell:∀ j x,cs[j]?=some x→∃ u,W.cell? (b.add j)=some u∧Den ρ x u) :
  ∃ u,(∀ w:World,(∀ j u,W.cell? (b.add j)=some u→w.cell? (b.add j)=some u)→(loadVar t (b.add off)).run P w=.ok u w)∧Den ρ v u:=by
 obtain⟨i,hi,hsz,_,_⟩:=s4 ht
 have hagg:=fun w=>a5p ht w
 rcases b39 h with(⟨hk,rfl,hl⟩ | ⟨h0,rfl,hk⟩) | ⟨hk,hv⟩
 ·rw[hk] at hagg
  have hex:∃ us:List Value,us.length=ti.size∧∀ j,j < ti.size→∃ u,us[j]?=some u∧W.cell? ((b.add off).add j)=some u∧∀ x,cs[off + j]?=some x→Den ρ x u:=by
   refine⟨(List.range ti.size).map fun j=>(W.cell? ((b.add off).add j)).getD undef,by simp,fun j hj=>?_⟩
   have hj':off + j < cs.length:=by omega
   obtain⟨u,hu,hd⟩:=hcell (off + j) _ (z0i hj')
   rw[w6]
   refine⟨u,?_,hu,fun x hx=>by rw[z0i hj'] at hx; simp only[z0a] at hx; subst hx; exact hd⟩
   rw[z3o,List.getElem?_range hj]
   simp[w6,hu]
  obtain⟨us,hlen,hus⟩:=hex
  refine⟨.agg us.toArray,fun w hw=>?_,.agg (by simp[hlen]; omega) fun j x u hx hu=>?_⟩
  ·have:=run_loadCells_list (P:=P) w (b.add off) us (fun j u hu=>by
    have hj:j < ti.size:=by have:=(z0c.1 hu).1; omega
    obtain⟨u',h1,h2,_⟩:=hus j hj
    rw[hu] at h1
    simp only[z0a] at h1
    subst h1
    rw[w6] at h2 ⊢
    exact hw _ _ h2)
   rw[hlen] at this
   simp[loadVar,hagg w,sizeOf,typeInfo,hi,hsz,this]
  ·have hj:j < ti.size:=by have:=(z0c.1 hu).1; omega
   obtain⟨u',h1,_,h3⟩:=hus j hj
   rw[hu] at h1
   simp only[z0a] at h1
   subst h1
   refine h3 x ?_
   rw[z1u,if_pos hj,z1n] at hx
   exact hx
 ·rw[hk] at hagg
  refine⟨.agg #[],fun w _=>?_,.agg (vs:=[]) rfl (fun j x u hx=>by simp at hx)⟩
  have:=run_loadCells_list (P:=P) w (b.add off) [] (fun j u hu=>by simp at hu)
  simp only[z3a] at this
  simp[loadVar,hagg w,sizeOf,typeInfo,hi,hsz,h0,this]
 ·rw[hk] at hagg
  obtain⟨u,hu,hd⟩:=hcell off v hv
  exact⟨u,fun w hw=>by simp[loadVar,hagg w,hw _ _ hu],hd⟩
theorem d0z {ops:Array Oper} {ρ:Env} {rs h:a5a} {sl sl':List Slot} {m m':List MBlk} {o:Oper} {ps:List Prop} {a:Act} {W:World} (hT:TabOk P T) (hr:Rel T B w0 ρ sl m a W) (hA:opA T ops.toList sl m o=some (ps,sl',m')) (hp:∀ p∈ps,p) (htk:b7o T sl m o=some h) (hsub:∀ x∈h,x∈rs):∃ v,m'=m∧YieldsIf P ops (a50 ρ W rs) o v a∧Rel T B w0 ρ sl' m (a.put o.dst v) W:=by
 have hg:o.guard=none:=by
  unfold b7o at htk
  split at htk
  ·cases htk
  ·assumption
 have hwant:Region.wanted o (yielded ops a.tmps)=true:=by simp[Region.wanted,hg]
 unfold opA at hA
 simp only[hg,a42,b2k,z1j] at hA
 cases hdf:(s8 o.dst sl && a7i o.dst [])
 ·simp[hdf] at hA
 simp only[hdf,z0f] at hA
 rw[z0d] at hdf
 split at hA
 ·rename_i ar har
  split at hA
  ·rename_i sl1 hput
   simp only[z0a,z0g] at hA
   obtain⟨rfl,rfl,rfl⟩:=hA
   have hpre:∀ p∈ar.pre,p:=by
    have:∀(l:List Prop),(∀ p∈a6r sl [] l,p)→∀ p∈l,p:=by
     intro l
     induction l with
     | nil=>intro _ p hp; cases hp
     | cons x r ih =>
      intro h p hp
      simp only[a6r,b0y] at h
      rcases z0s.1 hp with rfl | hp
      ·exact h _ (by simp)
      ·exact ih (fun q hq=>h q (by simp[hq])) p hp
    exact(b45 (this _ hp)).1
   have hsu:=(b45 (T:=T) (dst:=o.dst) (v:=ar.sv) (ps:=ar.pre) (by
    have:∀(l:List Prop),(∀ p∈a6r sl [] l,p)→∀ p∈l,p:=by
     intro l
     induction l with
     | nil=>intro _ p hp; cases hp
     | cons x r ih =>
      intro h p hp
      simp only[a6r,b0y] at h
      rcases z0s.1 hp with rfl | hp
      ·exact h _ (by simp)
      ·exact ih (fun q hq=>h q (by simp[hq])) p hp
    exact this _ hp)).2
   have hs:OpsOk ρ sl a o.op.operands.toList:=fun t s _ hn hsat=>by rw[t0] at hn; exact(hr.fr.ok t s hn).1 hsat
   have hc:sat a []:=fun q w hq=>by cases hq
   have fin:∀ {v:Value},ar.new=[]→Den ρ ar.sv v→(∀ w,a50 ρ W rs w→(execOp a.eval o).run P w=.ok (.value v) w)→∃ v,app m ar.new=m∧YieldsIf P ops (a50 ρ W rs) o v a∧Rel T B w0 ρ sl1 m (a.put o.dst v) W:=fun {v} hn hd hy =>
    ⟨v,by rw[hn]; rfl,.inl ⟨hwant,hy⟩,hr.fr.put (fun _ _ h=>h) hput hdf.1 (fun d _=>by simp) (.inl ⟨hc,hsu _ _ hd⟩),hr.mr,hr.gl,hr.df.step (x7 _ _) (fun _ h=>h) (fun _ _=>rfl)⟩
   unfold b7o at htk
   simp only[hg] at htk
   split at htk
   ·rename_i x ho
    rw[ho] at har hs
    simp only[q8] at har
    obtain⟨sv,hsv,rfl⟩:=a00 har
    exact fin rfl (f7 hr.gl hsv (hs.sub (by simp[Op.operands])) hc) (fun w _=>by simp[execOp,ho])
   ·rename_i t x y ho
    rw[ho] at har hs
    obtain⟨v,h1,h2,h3⟩:=idxA (P:=P) hT ho hr.gl (hs.sub (by simp[Op.operands])) hc har hpre
    exact fin h3 h2 (fun w _=>h1 w)
   ·rename_i t x k ho
    rw[ho] at har hs
    obtain⟨v,h1,h2,h3⟩:=fldA (P:=P) hT ho hr.gl (hs.sub (by simp[Op.operands])) hc har
    exact fin h3 h2 (fun w _=>h1 w)
   ·rename_i t x ho
    split at htk
    ·rename_i ti r off hti hx
     split at htk
     ·rename_i cs hcs
      have fin2:∀ {y:SV},nth cs off=some y→a6v y=true→(r,off,y)∈h→(Nat.beq ti.kind 1 || Nat.beq ti.kind 2)=false→∃ v,app m ar.new=m∧YieldsIf P ops (a50 ρ W rs) o v a∧Rel T B w0 ρ sl1 m (a.put o.dst v) W:=fun {y} hn hy hin hkk=>by
       rw[ho] at har hs
       obtain⟨b,c,hρ,ex⟩:=(f7 hr.gl hx (hs.sub (by simp[Op.operands])) hc).ptr_inv
       simp only[q8,hti,hx,hcs,loadAt,hkk,z0m,hn] at har
       cases har
       obtain⟨g,ty,vs,c',e1,_,e3,e4⟩:=hr.mr.blk r _ (p9 hcs) (by rw[hρ]; simp)
       rw[hρ] at e1
       simp only[z0a,z0g] at e1
       obtain⟨rfl,_⟩:=e1
       obtain⟨v,_,hdv⟩:=e4.get (p9 hn)
       have hagg:∀ w,(isAgg t).run P w=.ok false w:=fun w=>by rw[a5p (hT.types t ti hti) w,hkk]
       refine fin (v:=v) rfl hdv (fun w hw=>?_)
       have hcell:=hw.1 _ (hsub _ hin) hy g c v hρ hdv
       have e0:(Addr.add ⟨g,0,none⟩ off)=⟨g,off,none⟩:=by rw[a5b]; simp
       have hld:(loadVar t ⟨g,off,none⟩).run P w=.ok v w:=by
        simp only[loadVar,z1a,hagg,z0o,z2s,if_false]
        rw[run_load,hcell]
       simp only[execOp,ho,ex,e0,Instr.loadAt,Instr.sureAddr,z1a,z3g,z0o,hld]
      split at htk
      ·rename_i k n hn
       cases hkk:(Nat.beq ti.kind 1 || Nat.beq ti.kind 2) <;> rw[hkk] at htk <;> cases htk
       exact fin2 hn rfl (by simp) hkk
      ·rename_i q n hn
       cases hkk:(Nat.beq ti.kind 1 || Nat.beq ti.kind 2) <;> rw[hkk] at htk <;> cases htk
       exact fin2 hn rfl (by simp) hkk
      ·cases htk
     ·rename_i cs hcs
      cases htk
      rw[ho] at har hs
      obtain⟨b,c,hρ,ex⟩:=(f7 hr.gl hx (hs.sub (by simp[Op.operands])) hc).ptr_inv
      simp only[q8,hti,hx,hcs] at har
      obtain⟨v,hv,rfl⟩:=a00 har
      obtain⟨a',c',e1,hS,e3⟩:=hr.mr.blk r _ (p9 hcs) (by rw[hρ]; simp)
      rw[hρ] at e1
      simp only[z0a,z0g] at e1
      obtain⟨rfl,_⟩:=e1
      obtain⟨u,hu,hd⟩:=b5f (P:=P) (ρ:=ρ) (W:=W) (b:=b) (hT.types t ti hti) hv e3
      refine fin (v:=u) rfl hd (fun w hw=>?_)
      have:=hu w (fun j u' hu'=>by
       have hbr:c1z W b.block:=by
        unfold World.cell? at hu'
        rw[block_add] at hu'
        split at hu'
        ·rename_i c e p hh; exact⟨c,e,p,hh⟩
        ·cases hu'
       rw[b51 (hw.2 b.block hS hbr) (by rw[block_add])]
       exact hu')
      simp only[execOp,ho,ex,Instr.loadAt,Instr.sureAddr,z1a,z3g,z0o,this]
     ·cases htk
    ·rename_i ti q sz ix off hti hx
     split at htk
     ·rename_i n cols hcs
      cases hk3:(Nat.beq ti.kind 3 || (Nat.beq ti.kind 1 && Nat.beq ti.size 2)) <;> rw[hk3] at htk <;> cases htk
      rw[ho] at har hs
      obtain⟨b,c,hρ,ex⟩:=(f7 hr.gl hx (hs.sub (by simp[Op.operands])) hc).pix_inv
      rw[z1o] at hk3
      obtain⟨hk3,hk4⟩:=hk3
      simp only[q8,hti,hx,hcs,a98,b6w,hk3,hk4,Bool.false_and,z0m] at har
      cases hsz:Nat.beq sz cols.length
      ·simp[hsz] at har
      ·simp only[hsz,z0f] at har
       have hsz:=z0b hsz
       split at har
       ·rename_i v hv
        cases har
        have hix:ix < n:=hpre _ (by simp)
        obtain⟨A,k',e1,_,e2⟩:=hr.mr.blk q _ (p9 hcs) (by rw[hρ]; simp)
        rw[hρ] at e1
        simp only[z0a,z0g] at e1
        obtain⟨rfl,_⟩:=e1
        obtain⟨b',e',hS,e3⟩:=e2 (by omega)
        simp only[z0a] at e'
        subst e'
        obtain⟨u,hu,hd⟩:=b5f (P:=P) (ρ:=ρ) (W:=W) (b:=b.add (ix * sz)) (hT.types t ti hti) hv (fun j x hx=>by
         rw[b2x,z0h] at hx
         obtain⟨col,hc,rfl⟩:=hx
         obtain⟨u,h1,h2⟩:=e3 ix hix j col hc
         exact⟨u,by rw[w6,hsz]; exact h1,b2p ρ h2⟩)
        refine fin (v:=u) rfl hd (fun w hw=>?_)
        have:=hu w (fun j u' hu'=>by
         have hbr:c1z W b.block:=by
          unfold World.cell? at hu'
          rw[block_add,block_add] at hu'
          split at hu'
          ·rename_i c e p hh; exact⟨c,e,p,hh⟩
          ·cases hu'
         rw[b51 (hw.2 b.block hS hbr) (by rw[block_add,block_add])]
         exact hu')
        rw[w6] at this
        simp only[execOp,ho,ex,Instr.loadAt,Instr.sureAddr,z1a,z3g,z0o,this]
       ·cases har
     ·cases htk
    ·cases htk
   ·rename_i cl ho
    split at htk
    ·rename_i x hcal hargs
     split at htk
     ·rename_i r n hx
      cases htk
      rw[ho] at har hs
      have hdx:=f7 hr.gl hx (hs.sub (by intro y hy; simp only[z0r] at hy; subst hy; simp only[Op.operands,Call.operands]; simp; exact .inr (by simpa using(show y∈cl.args.toList by rw[hargs]; simp)))) hc
      obtain⟨A,k,_,ex,_⟩:=hdx.sl_inv
      simp only[q8,hcal,hargs,a2l,hx,b02,a1w] at har
      cases hsl:a21 T cl.argTypes.toList
      ·rw[hsl] at har; cases har
      rw[hsl,z0f] at har
      cases har
      obtain⟨t,el,ht,hu⟩:=b13 hT hsl
      refine fin (v:=.int .i64 n) rfl (.i _ _) (fun w _=>?_)
      have e:cl.args.map a.eval = #[.slice A n k]:=by
       have:cl.args.toList.map a.eval=[.slice A n k]:=by rw[hargs]; simp[ex]
       apply Array.ext'; simpa using this
      simp only[execOp,ho,resolve,hcal,z1a,z3g,z0o,invoke]
      rw[e]
      simp[builtin,Builtin.len_,ht,run_underlying hu,goInt]
     ·cases htk
    ·cases htk
   ·rename_i t x y ho
    cases hsu:y4 1000001 T.sure
    case true=>rw[hsu] at htk; cases htk
    rw[hsu,z0m] at htk
    split at htk
    ·rename_i ti r n kb b hti hx hy
     split at htk
     ·rename_i n' cols hm
      cases htk
      rw[ho] at har hs
      have hdx:=f7 hr.gl hx (hs.sub (by simp[Op.operands])) hc
      have hdy:=f7 hr.gl hy (hs.sub (by simp[Op.operands])) hc
      have hsn:a7g T sl m [] t x none (some y)=none:=by simp only[a7g,hsu,z0m]
      simp only[q8,hsn,hti,hx,a6a,hy] at har
      split at har
      ·rename_i te hte
       cases hk:Nat.beq ti.kind 3
       ·simp[hk] at har
       ·simp only[hk,z0f,b7i,hm,a5o,c13,z0m,z0a] at har
        subst har
        have p1:n=n':=hpre _ (by simp)
        have p2:0≤b:=hpre _ (by simp)
        have p3:b≤n:=hpre _ (by simp)
        subst p1
        obtain⟨hu,_⟩:=q6 (hT.types t ti hti) (z0b hk)
        obtain⟨i,hi',hsz,_,_⟩:=s4 (hT.types _ te hte)
        have hel:P.elem t=ti.elem:=by simp[Program.elem,hu]
        have hu':P.underlying t=some (.slice (P.elem t)):=by rw[hel]; exact hu
        obtain⟨A,k,hρ,e,hne⟩:=hdx.sl_inv
        obtain⟨A',c',h1,h2,h3⟩:=hr.mr.blk r _ (p9 hm) (by rw[hρ]; simp)
        rw[hρ] at h1
        simp only[z0a,z0g] at h1
        obtain⟨rfl,rfl⟩:=h1
        have eh:=hdy.i_inv
        refine fin (v:=sliced A 0 b.toNat k te.size) rfl (.sub hρ fun h0=>⟨hne (by omega),by rw[if_neg (by omega)]⟩) (fun w _=>?_)
        have hso:(sizeOf (P.elem t)).run P w=.ok te.size w:=by rw[hel]; simp[sizeOf,typeInfo,hi',hsz]
        simp only[execOp,ho,z3l,z2l,z1a,e,eh,run_sliceAt_slice w t _ _ _ _ hu',run_slice_h w t A n k hu' kb b p2 (by omega),hso,z0o]
        rfl
      ·cases har
     ·cases htk
    ·cases htk
   ·cases htk
  ·cases hA
 ·cases hA
section pinned
variable (f:Nat→Option Addr × Nat) (rs:a5a)
theorem a4u (sl:List Slot) (c:List (Nat × Bool)) (x:Operand):q7 (T.pinned f rs) sl c x=q7 T sl c x:=rfl
theorem b9v (sl:List Slot) (c:List (Nat × Bool)) (xs:List Operand):a2l (T.pinned f rs) sl c xs=a2l T sl c xs:=by
 induction xs with
 | nil=>rfl
 | cons x r ih=>simp only[a2l,a4u,ih]
theorem a8p (sl:List Slot) (c:List (Nat × Bool)) (xs:List (Nat × Operand)):a0u (T.pinned f rs) sl c xs=a0u T sl c xs:=by
 induction xs with
 | nil=>rfl
 | cons x r ih=>obtain⟨k,x⟩:=x; simp only[a0u,a4u,ih]
theorem b4d (sl:List Slot) (c:List (Nat × Bool)) (x:Option Operand):a6a (T.pinned f rs) sl c x=a6a T sl c x:=by cases x <;> rfl
theorem b22:(T.pinned f rs).types=T.types:=rfl
theorem c99:(T.pinned f rs).calls=T.calls:=rfl
theorem c5m:(T.pinned f rs).callsB=T.callsB:=rfl
theorem a8j (t:Nat):a34 (T.pinned f rs) t=a34 T t:=rfl
theorem b07 (t:Nat):a2c (T.pinned f rs) t=a2c T t:=rfl
theorem d6d (t:Nat) (op:BinOp) (x y:SV):bin (T.pinned f rs) t op x y=bin T t op x y:=rfl
theorem c3m (ts:List Nat):a21 (T.pinned f rs) ts=a21 T ts:=rfl
theorem b4w (b:Builtin) (ts:List Nat) (vs:List SV):a1w (T.pinned f rs) b ts vs=a1w T b ts vs:=by
 unfold a1w
 have e:b88 (T.pinned f rs) ts=b88 T ts:=rfl
 simp only[c3m,e]
theorem b2f (sl:List Slot) (c:List (Nat × Bool)) (x:Callee):a3m (T.pinned f rs) sl c x=a3m T sl c x:=by
 unfold a3m
 simp only[a4u]
theorem c7j (sl:List Slot) (m:List MBlk) (c:List (Nat × Bool)) (t len:Nat) (ps:Array (Nat × Operand)):b0i (T.pinned f rs) sl m c t len ps=b0i T sl m c t len ps:=by
 unfold b0i
 simp only[a8p,b22]
 rfl
theorem c8i (sl:List Slot) (m:List MBlk) (c:List (Nat × Bool)) (t:Nat) (x:Operand) (lo hi:Option Operand):a7g (T.pinned f rs) sl m c t x lo hi=a7g T sl m c t x lo hi:=by
 unfold a7g
 simp only[a4u,b4d,b22]
 rfl
theorem c8e (sl:List Slot) (m:List MBlk) (op:Op):settle (T.pinned f rs) sl m op=settle T sl m op:=by
 unfold settle
 simp only[a4u]
 rfl
theorem c69 (m:List MBlk) (b:Builtin) (ts:List Nat) (vs:List SV):b02 (T.pinned f rs) m b ts vs=b02 T m b ts vs:=rfl
theorem d0j (sl:List Slot) (m:List MBlk) (c:List (Nat × Bool)) (t:Nat) (op:Op):q8 (T.pinned f rs) sl m c t op=q8 T sl m c t op:=by
 unfold q8
 simp only[a4u,b9v,a8p,b4d,b22,c99,a8j,b07,d6d,b4w,c69,b2f,c7j,c8i]
theorem c6e (sl:List Slot) (m:List MBlk) (c:List (Nat × Bool)) (t:Nat) (x y z:Operand):a8k (T.pinned f rs) sl m c t x y z=a8k T sl m c t x y z:=by
 unfold a8k
 simp only[a4u,a8j,b07]
theorem d0k (sl:List Slot) (m:List MBlk) (c:List (Nat × Bool)) (op:Op):a0x (T.pinned f rs) sl m c op=a0x T sl m c op:=by
 unfold a0x
 simp only[a4u,b9v,a8p,b4d,b22,c5m,a8j,b07,b2f,c6e]
end pinned
theorem d0m (f:Nat→Option Addr × Nat) (rs:a5a) (d:Option Nat) (v:SV):b5x (T.pinned f rs) d v=b5x T d v:=rfl
theorem d0l (f:Nat→Option Addr × Nat) (rs:a5a) (d:Option Nat) (v:SV) (ps:List Prop):b9o (T.pinned f rs) d v ps=b9o T d v ps:=rfl
theorem b3j (f:Nat→Option Addr × Nat) (rs:a5a) (ops:List Oper) (sl:List Slot) (m:List MBlk) (o:Oper):opA (T.pinned f rs) ops sl m o=opA T ops sl m o:=by
 unfold opA
 simp only[d0j,d0m,d0l]
theorem b94 (f g:Nat→Option Addr × Nat) (rs:a5a):a0z (T.pinned f rs)=a0z (T.pinned g rs):=by
 have h2:∀(ps:List (Nat × (Option Addr × Nat))) (rs:a5a),a80 (rs.map (fun h=>(h.1,f h.1)) ++ ps)=a80 (rs.map (fun h=>(h.1,g h.1)) ++ ps):=by
  intro ps rs
  induction rs with
  | nil=>rfl
  | cons x r ih=>simp only[z2b,List.cons_append,a80]; rw[ih]
 have h1:∀(G:List (Nat × Nat)) (p q:List (Nat × (Option Addr × Nat))),a80 p=a80 q→a76 G p=a76 G q:=by
  intro G
  induction G with
  | nil=>intro p q h; exact h
  | cons x G ih=>intro p q h; simp only[a76]; rw[ih _ _ h]
 exact h1 _ _ _ (h2 T.pins rs)
theorem c0z (f g:Nat→Option Addr × Nat) (rs:a5a) (ops:List Oper) (sl:List Slot) (m:List MBlk) (o:Oper):opB (T.pinned f rs) ops sl m o=opB (T.pinned g rs) ops sl m o:=by
 have e:∀ h,b42 (T.pinned h rs) sl m o.op=b42 T sl m o.op:=fun h=>by
  unfold b42
  simp only[d0k,c8e]
 unfold opB
 rw[e f,e g,b94 f g rs]
theorem b9g (f g:Nat→Option Addr × Nat) (rs rs2:a5a) (ops:List Oper):∀(l:List Oper) (s:St),b4v (T.pinned f rs) ops rs2 l s=b4v (T.pinned g rs) ops rs2 l s:=by
 intro l
 induction l with
 | nil=>intro s; rfl
 | cons o l ih =>
  intro s
  simp only[b4v,b3j]
  rw[c0z f g rs]
  split
  ·rw[ih]
  ·split
   ·cases b3h rs2 _
    ·rfl
    ·simp only[z0f]; rw[ih]
   ·rfl
theorem c8n {ops:List Oper}:∀ {tail:List Oper} {S:Nat→List Slot} {M:Nat→List MBlk} {n:Nat},(∀ i,i < n→∃ o p,tail[i]?=some o∧opA T ops (S i) (M i) o=some (p,S (i + 1),M (i + 1))) →
  ∀ i h,(c56 T ops tail (S 0) (M 0))[i]?=some h→i < n→∃ o,tail[i]?=some o∧b7o T (S i) (M i) o=some h:=by
 intro tail
 induction tail with
 | nil=>intro S M n _ i h hi; simp[c56] at hi
 | cons o rest ih =>
  intro S M n hst i h hi hin
  simp only[c56] at hi
  split at hi
  ·rename_i h0 ps sl' m' htk hA
   cases i with
   | zero =>
    simp at hi
    subst hi
    exact⟨o,rfl,htk⟩
   | succ i =>
    obtain⟨o',p',ho',hA'⟩:=hst 0 (by omega)
    simp at ho'
    subst ho'
    rw[hA] at hA'
    simp only[z0a,z0g] at hA'
    obtain⟨_,e1,e2⟩:=hA'
    have:=ih (S:=fun i=>S (i + 1)) (M:=fun i=>M (i + 1)) (n:=n - 1) (fun j hj=>by
     obtain⟨oj,pj,h1,h2⟩:=hst (j + 1) (by omega)
     exact⟨oj,pj,by simpa using h1,h2⟩) i h (by rw[← e1,← e2]; simpa using hi) (by omega)
    simpa using this
  ·simp at hi
theorem a5e {tk:List a5a} {x:Nat × Nat × SV}:x∈b58 tk↔∃(i:Nat) (h:a5a),tk[i]?=some h∧x∈h:=by
 induction tk with
 | nil=>simp[b58]
 | cons h r ih =>
  simp only[b58,z0n,ih]
  constructor
  ·rintro (hx | ⟨i,h',h1,h2⟩)
   ·exact⟨0,h,rfl,hx⟩
   ·exact⟨i + 1,h',by simpa using h1,h2⟩
  ·rintro ⟨i,h',h1,h2⟩
   cases i with
   | zero=>simp at h1; subst h1; exact .inl h2
   | succ i=>exact .inr ⟨i,h',by simpa using h1,h2⟩
theorem d0y {sl:List Slot} {m:List MBlk} {o:Oper} {h:a5a} (htk:b7o T sl m o=some h):HeldIn h m∧a4x h:=by
 have nil:HeldIn [] m∧a4x []:=⟨fun x hx=>(by cases hx),fun x hx=>(by cases hx)⟩
 unfold b7o at htk
 split at htk
 ·cases htk
 ·split at htk
  ·cases htk; exact nil
  ·cases htk; exact nil
  ·cases htk; exact nil
  ·split at htk
   ·split at htk
    ·rename_i cs hcs
     split at htk
     ·rename_i k n hn
      generalize (Nat.beq _ 1 || Nat.beq _ 2)=bb at htk
      cases bb
      ·simp only[z0m,z0a] at htk
       subst htk
       refine⟨fun x hx _=>?_,fun x hx q n hq=>?_⟩
       ·obtain rfl:=z0r.1 hx
        exact⟨cs,p9 hcs,p9 hn⟩
       ·obtain rfl:=z0r.1 hx
        cases hq
      ·cases htk
     ·rename_i q n hn
      generalize (Nat.beq _ 1 || Nat.beq _ 2)=bb at htk
      cases bb
      ·simp only[z0m,z0a] at htk
       subst htk
       refine⟨fun x hx hv=>?_,fun x hx q' n' hq=>?_⟩
       ·rcases z0s.1 hx with rfl | hx
        ·exact⟨cs,p9 hcs,p9 hn⟩
        ·obtain rfl:=z0r.1 hx
         cases hv
       ·rcases z0s.1 hx with rfl | hx
        ·simp only[SV.sl.injEq] at hq
         exact⟨(q,0,.dead),by simp,hq.1⟩
        ·obtain rfl:=z0r.1 hx
         cases hq
      ·cases htk
     ·cases htk
    ·cases htk; exact nil
    ·cases htk
   ·split at htk
    ·generalize (Nat.beq _ 3 || (Nat.beq _ 1 && Nat.beq _ 2))=bb at htk
     cases bb
     ·cases htk; exact nil
     ·cases htk
    ·cases htk
   ·cases htk
  ·split at htk
   ·split at htk
    ·cases htk; exact nil
    ·cases htk
   ·cases htk
  ·generalize y4 1000001 T.sure=bb at htk
   cases bb
   ·simp only[z0m] at htk
    split at htk
    ·split at htk
     ·cases htk; exact nil
     ·cases htk
    ·cases htk
   ·cases htk
  ·cases htk
theorem a3p (n:Nat):∀ i,(a13 n i).size=n:=by
 intro i
 induction i with
 | zero=>simp[a13]
 | succ i ih=>simp[a13,ih]
theorem a2h {n:Nat}:∀ {i j:Nat},j < n→((a13 n i).getD j false=true↔j < i):=by
 intro i
 induction i with
 | zero=>intro j hj; simp[a13,hj]
 | succ i ih =>
  intro j hj
  simp only[a13]
  by_cases e:j=i
  ·subst e
   have:j < (a13 n j).size:=by rw[a3p]; exact hj
   simp[this]
  ·rw[getD_set_ne false (Ne.symm e),ih hj]
   omega
theorem b6g {n:Nat}:∀ {i:Nat},i≤n→(a13 n i).toList.count true=i:=by
 intro i
 induction i with
 | zero=>intro _; simp[a13,List.count_replicate]
 | succ i ih =>
  intro hi
  simp only[a13]
  rw[a8v (by rw[a3p]; omega) (z0z.2 fun h=>by have:=(a2h (by omega)).1 h; omega),ih (by omega)]
theorem c1s {ops:Array Oper}:∀ {k:Nat},b4a ops k=true→∀ i,i < k→Region.free .any ops (a13 ops.size i) i=true∧(Region.ready .any ops (a13 ops.size i)).contains i=true:=by
 intro k
 induction k with
 | zero=>intro _ i hi; omega
 | succ k ih =>
  intro h i hi
  simp only[b4a,z0d] at h
  by_cases e:i=k
  ·subst e; exact h.1
  ·exact ih h.2 i (by omega)
theorem a6e {ops:Array Oper} {Q:Exit→Act→World→Prop} {s s':St} {ps:List Prop} {ρ:Env} {a:Act} {W:World} (hT:TabOk P T) (h:a8z T ops s=some (ps,s')) (hp:∀ p∈ps,p) (hr:Rel T B w0 ρ s.slots s.mem a W)
  (hQ:∀ ρ a W,Rel T B w0 ρ s'.slots s'.mem a W→Q .normal a W):wpAny P .any ops (fun e a w=>e=.normal∧Q .normal a w) ops.size (Array.replicate ops.size false) a { W with drawn:=W.drawn + 1 }:=by
 unfold a8z at h
 generalize hA:b0n T ops.toList ops.toList s.slots s.mem=res at h
 obtain⟨ps1,sl1,m1,ls,r⟩:=res
 simp only at h
 generalize htk:c56 T ops.toList ops.toList s.slots s.mem=tk at h
 cases hc:(a0c s.slots && z8 0 ops.toList && a4z ops.toList && a04 ops.toList (u5 ops.toList []) 0 ls (u5 ops.toList []) && a4i tk.length (b6q ops ls.length) ls.length (a12 ls.length (u5 ops.toList [])) && Nat.ble tk.length ls.length && Region.noSelect ops && b4a ops tk.length)
 ·simp[hc] at h
 ·rw[hc] at h
  simp only[z0f] at h
  simp only[z0d] at hc
  obtain⟨⟨⟨⟨⟨⟨⟨hcln,hed⟩,hds⟩,hlk⟩,htl⟩,hkl⟩,hns⟩,hfree⟩:=hc
  have hkl:=z1q hkl
  split at h
  ·rename_i qs s1 hB
   simp only[z0a,z0g] at h
   obtain⟨rfl,rfl⟩:=h
   obtain⟨S,M,p,h1,h2,h3,h4,h5,h6,h7⟩:=a8n _ _ _ _ _ _ _ _ hA
   have hanl:(u5 ops.toList []).length=ops.toList.length:=by have:=(x9 ops.toList []).1; simpa using this
   have hst:∀ i,i < ls.length→∃ o,ops.toList[i]?=some o∧opA T ops.toList (S i) (M i) o=some (p i,S (i + 1),M (i + 1))∧ls[i]?=some (y8 (S i) ops.toList o):=fun i hi=>by
    obtain⟨o,k1,k2,k3,_⟩:=h7 i hi
    exact⟨o,k1,k2,k3⟩
   have hps:∀ i,i < ls.length→∀ q∈p i,q:=fun i hi q hq=>by
    obtain⟨o,_,_,_,k4⟩:=h7 i hi
    exact hp q (z0n.2 (.inl (k4 q hq)))
   have hpre:Pre ops.toList S ls.length:=⟨fun i hi=>by
     obtain⟨o,k1,k2,_⟩:=hst i hi
     obtain⟨s,hs⟩:=(a0l k2).2.1
     exact⟨o,s,k1,hs⟩,fun i hi o ho=>by
     obtain⟨o',k1,k2,_⟩:=hst i hi
     rw[ho] at k1
     simp only[z0a] at k1
     subst k1
     exact(a0l k2).2.2,hds⟩
   have hBel:Below W.heap.size W { W with drawn:=W.drawn + 1 }:=⟨rfl,rfl,rfl,z0q _,fun _ _=>rfl⟩
   have hMn:∀ j,j < ls.length→∃ new,M (j + 1)=M j ++ new:=fun j hj=>by
    obtain⟨oj,_,hAj,_⟩:=hst j hj
    exact(a0l hAj).1
   obtain⟨tl,htl0⟩:=a84 hMn 0 ls.length (by omega) (z0q _)
   have hge:∀ j,j≤ls.length→(M 0).length≤(M j).length:=fun j hj=>by
    obtain⟨n1,e1⟩:=a84 hMn 0 j (by omega) hj
    rw[e1]; simp
   have htks:∀ i hh,tk[i]?=some hh→∃ o,ops.toList[i]?=some o∧b7o T (S i) (M i) o=some hh:=fun i hh hi=>by
    have:=c8n (T:=T) (S:=S) (M:=M) (n:=ls.length) (ops:=ops.toList) (tail:=ops.toList) (fun j hj=>by obtain⟨o,k1,k2,_⟩:=hst j hj; exact⟨o,p j,k1,k2⟩) i hh (by rw[h1,h2,htk]; exact hi) (by have:=(z0c.1 hi).1; omega)
    exact this
   let rs:=b58 tk
   let W1:World:={ W with drawn:=W.drawn + 1 }
   have hr1:Rel T B w0 ρ (S 0) (M 0) a W1:=by
    have:=hr.mr.grow (new:=[]) hBel (fun _ _=>rfl) (.refl _ _ _) (.nil _ _ _ _)
    rw[z1f] at this
    rw[h1,h2]
    exact⟨hr.fr,this,hr.gl,hr.df⟩
   have walk:∀(j:Nat),j≤tk.length→M j=M 0∧(∀ i hh,i < j→tk[i]?=some hh→(HeldIn hh (M 0)∧a4x hh)∧∀ x∈hh,ρ x.1≠none) ∧
     ∃ aj,Rel T B w0 ρ (S j) (M 0) aj W1∧∀(Qn:Exit→Act→World→Prop) (fuel:Nat),(∀ c a w,¬ Qn (.panic c) a w)→(∀ x∈rs,ρ x.1≠none)→HeldIn rs (M 0)→a4x rs→wpAnyH P .any ops Qn (a50 ρ W1 rs) fuel (a13 ops.size j) aj W1→wpAnyH P .any ops Qn (a50 ρ W1 rs) (fuel + j) (a13 ops.size 0) a W1:=by
    intro j
    induction j with
    | zero=>intro _; exact⟨rfl,fun i hh hi=>absurd hi (z1l _),a,hr1,fun Qn fuel _ _ _ _ h=>h⟩
    | succ j ih =>
     intro hj
     obtain⟨e1,e2,aj,e3,e4⟩:=ih (by omega)
     obtain⟨o,ho,hAo,_⟩:=hst j (by omega)
     have htj:tk[j]?=some tk[j]:=z0i (by omega)
     obtain⟨o',ho',htko⟩:=htks j _ htj
     rw[ho] at ho'
     simp only[z0a] at ho'
     subst ho'
     rw[e1] at hAo htko
     have hρn:∀ x∈tk[j],ρ x.1≠none:=by
      intro x hx
      have hslot:∀(q n:Nat) (cs:List SV) (r off:Nat),nth (M 0) r=some (.cells cs)→ρ r≠none→nth cs off=some (.sl q n)→ρ q≠none:=fun q n cs r off h1 h2 h3=>by
       obtain⟨_,_,vs,_,_,_,_,e4⟩:=e3.mr.blk r _ (p9 h1) h2
       obtain⟨v,_,hd⟩:=e4.get (p9 h3)
       cases hd with
       | sl e _=>rw[e]; simp
      have htko':=htko
      unfold b7o at htko'
      split at htko'
      ·cases htko'
      ·split at htko'
       ·simp only[z0a] at htko'; rw[← htko'] at hx; cases hx
       ·simp only[z0a] at htko'; rw[← htko'] at hx; cases hx
       ·simp only[z0a] at htko'; rw[← htko'] at hx; cases hx
       ·split at htko'
        ·rename_i ti r off hti hux
         obtain⟨b,c,hρ,_⟩:=(f7 e3.gl hux (fun t st _ hn hsat=>by rw[t0] at hn; exact(e3.fr.ok t st hn).1 hsat) (fun q w hq=>by cases hq)).ptr_inv
         have hρr:ρ r≠none:=by rw[hρ]; simp
         split at htko'
         ·rename_i cs hcs
          split at htko'
          ·cases hb:(Nat.beq ti.kind 1 || Nat.beq ti.kind 2) <;> rw[hb] at htko' <;> simp only[z0f,z0m,reduceCtorEq,z0a] at htko'
           rw[← htko'] at hx
           obtain rfl:=z0r.1 hx
           exact hρr
          ·rename_i q n hn
           cases hb:(Nat.beq ti.kind 1 || Nat.beq ti.kind 2) <;> rw[hb] at htko' <;> simp only[z0f,z0m,reduceCtorEq,z0a] at htko'
           rw[← htko'] at hx
           rcases z0s.1 hx with rfl | hx
           ·exact hρr
           ·obtain rfl:=z0r.1 hx
            exact hslot q n cs r off hcs hρr hn
          ·cases htko'
         ·simp only[z0a] at htko'; rw[← htko'] at hx; cases hx
         ·cases htko'
        ·split at htko'
         ·cases hb:(Nat.beq (_:TI).kind 3 || (Nat.beq (_:TI).kind 1 && Nat.beq (_:TI).size 2)) <;> rw[hb] at htko' <;> simp only[z0f,z0m,reduceCtorEq,z0a] at htko'
          rw[← htko'] at hx; cases hx
         ·cases htko'
        ·cases htko'
       ·split at htko'
        ·split at htko'
         ·simp only[z0a] at htko'; rw[← htko'] at hx; cases hx
         ·cases htko'
        ·cases htko'
       ·generalize y4 1000001 T.sure=bb at htko'
        cases bb
        ·simp only[z0m] at htko'
         split at htko'
         ·split at htko'
          ·simp only[z0a] at htko'; rw[← htko'] at hx; cases hx
          ·cases htko'
         ·cases htko'
        ·cases htko'
       ·cases htko'
     have hM:M (j + 1)=M 0∧∃ a2,Rel T B w0 ρ (S (j + 1)) (M 0) a2 W1∧∀(Qn:Exit→Act→World→Prop) (fuel:Nat),(∀ c a w,¬ Qn (.panic c) a w)→(∀ x∈rs,ρ x.1≠none)→HeldIn rs (M 0)→a4x rs→wpAnyH P .any ops Qn (a50 ρ W1 rs) fuel (a13 ops.size (j + 1)) a2 W1→wpAnyH P .any ops Qn (a50 ρ W1 rs) (fuel + 1) (a13 ops.size j) aj W1:=by
      obtain⟨v,g1,g2,g3⟩:=d0z (rs:=rs) (h:=tk[j]) hT e3 hAo (hps j (by omega)) htko (fun x hx=>a5e.2 ⟨j,tk[j],htj,hx⟩)
      refine⟨g1,_,g3,fun Qn fuel hQn hρs hin hcl hw=>?_⟩
      obtain⟨f1,f2⟩:=c1s hfree j (by omega)
      exact wpAnyH_take (oi:=o) (by simpa using ho) hns f1 f2 (fun c a w hq=>absurd hq (hQn _ _ _)) g2 ⟨b30 e3.mr hin hcl (fun _ _ _ hy=>hy),fun _ _ _=>rfl⟩ hw
     obtain⟨m1',a2,m2,m3⟩:=hM
     refine⟨m1',fun i hh hi hih=>?_,a2,m2,fun Qn fuel hQn hρs hin hcl hw=>?_⟩
     ·by_cases e:i=j
      ·subst e
       rw[htj] at hih
       simp only[z0a] at hih
       subst hih
       exact⟨d0y htko,hρn⟩
      ·exact e2 i hh (by omega) hih
     ·have:=e4 Qn (fuel + 1) hQn hρs hin hcl (m3 Qn fuel hQn hρs hin hcl hw)
      rw[show fuel + (j + 1)=fuel + 1 + j by omega]
      exact this
   obtain⟨w1,w2,ak,w3,w4⟩:=walk tk.length (z0q _)
   have hin0:HeldIn rs (M 0):=fun x hx=>by
    obtain⟨i,hh,hi,hxh⟩:=a5e.1 hx
    exact(w2 i hh (z0c.1 hi).1 hi).1.1 x hxh
   have hclo:a4x rs:=fun x hx q n hq=>by
    obtain⟨i,hh,hi,hxh⟩:=a5e.1 hx
    obtain⟨y,hy,e⟩:=(w2 i hh (z0c.1 hi).1 hi).1.2 x hxh q n hq
    exact⟨y,a5e.2 ⟨i,hh,hi,hy⟩,e⟩
   have hρs:∀ x∈rs,ρ x.1≠none:=fun x hx=>by
    obtain⟨i,hh,hi,hxh⟩:=a5e.1 hx
    exact(w2 i hh (z0c.1 hi).1 hi).2 x hxh
   let f:Nat→Option Addr × Nat:=fun r=>(ρ r).getD (none,0)
   have hpin:∀ x∈rs,ρ x.1=some (f x.1):=fun x hx=>by
    obtain⟨y,hy⟩:=z1v.1 (hρs x hx)
    simp[f,hy]
   have hT':TabOk P (T.pinned f rs):=⟨hT.mixed,hT.types,hT.ints,hT.calls,hT.callsB,hT.inl,fun k hk=>by obtain⟨h1,h2,x,h3⟩:=hT.back k hk; exact⟨h1,z0n.2 (.inr h2),x,z0n.2 (.inr h3)⟩⟩
   have hG':GlobOk (T.pinned f rs) ρ:=⟨hr.gl.gl,fun q hq=>by
    rcases z0n.1 hq with hq | hq
    ·obtain⟨x,hx,rfl⟩:=z2h.1 hq
     exact hpin x hx
    ·exact hr.gl.pin q hq⟩
   have hold:∀ {ρ':Env},GlobOk (T.pinned f rs) ρ'→∀ x,x∈rs→∀ y,ρ x.1=some y→ρ' x.1=some y:=fun {ρ'} hg x hx y hy=>by
    have h1:=hg.pin (x.1,f x.1) (z0n.2 (.inl (z2h.2 ⟨x,hx,rfl⟩)))
    rw[hpin x hx] at hy
    rw[← hy]
    exact h1
   let Qn:Exit→Act→World→Prop:=fun e a w=>e=.normal∧Q .normal a w
   refine wpAny_of_held (Q:=Qn) (S:=a50 ρ W1 rs) _ _ _ _ ?_
   have hsz:ops.size=(ops.size - tk.length) + tk.length:=by
    have:ops.toList.length=ops.size:=by simp
    omega
   have hfin:=w4 Qn (ops.size - tk.length) (fun c a w hq=>by cases hq.1) hρs hin0 hclo ?_
   ·rw[hsz]
    have e0:a13 (ops.size - tk.length + tk.length) 0=Array.replicate (ops.size - tk.length + tk.length) false:=rfl
    rw[← hsz] at e0 ⊢
    rw[← hsz] at hfin
    exact hfin
   have hopsz:ops.toList.length=ops.size:=by simp
   have hprt:∀ x∈rs,x.1∈a0z (T.pinned f rs):=fun x hx=>a8l.2 (.inr ⟨f x.1,z0n.2 (.inl (z2h.2 ⟨x,hx,rfl⟩))⟩)
   refine d00 (p:=p) (B:=strongK B ρ W1) (w0:=W1) (dirty:=s.dirty) (T:=T.pinned f rs) (rs:=rs) (SS:=a50 ρ W1 rs) (s':=s1) (ps:=qs) (S:=S) (M:=M) (Q:=Qn) hT' (fun sl m ρ' a' W' hr' hh=>⟨b30 hr'.mr hh hclo (hold hr'.gl),fun g hg hb=>hr'.mr.below.block g ⟨hg,.inr hb⟩⟩) hclo hprt (fun ρ' m W' hm' hg' hh=>⟨b30 hm' hh hclo (hold hg'),fun g hg hb=>hm'.below.block g ⟨hg,.inr hb⟩⟩) (by rw[htl0]; exact hin0.app tl) hkl hns (fun c a w hq=>by cases hq.1) rfl hed hlk (by rw[h1]; exact hcln) hpre (fun i hi=>by obtain⟨o,k1,k2,k3⟩:=hst i hi; exact⟨o,k1,by rw[b3j]; exact k2,k3⟩) h6 hps htl ?_ (fun q hq=>hp q (z0n.2 (.inr hq))) (fun ρ' a' W' hr'=>⟨rfl,hQ ρ' a' W' ⟨hr'.fr,w3.mr.backK hr'.mr,⟨hr'.gl.gl,fun q hq=>hr'.gl.pin q (z0n.2 (.inr hq))⟩,DfOk.backK w3.mr hr'.df⟩⟩) _ _ _ _ ⟨by rw[a3p,hopsz],fun j aj haj hlj k hk=>?_,fun j hjn hjl=>?_,ρ,?_,fun d sd hcd=>?_,?_,hG',w3.df.strongK,fun i hi _ r hr1 _=>?_⟩ (fun j hj=>(a2h (by omega)).2 hj) (by rw[b6g (by omega)]; omega)
   ·rw[b9g f (fun _=>(none,0)) rs,h3,h4,← h5]; exact hB
   ·have hjl:j < ops.size:=by have:=(z0c.1 haj).1; omega
    rw[m4 (by rw[a3p]; exact hjl)] at hlj
    have hj:=(a2h hjl).1 hlj
    have hkj:=b67 rfl hed j aj haj k hk
    exact(a2h (by omega)).2 (by omega)
   ·rw[m4 (by rw[a3p]; omega)]
    exact z0z.2 fun h=>by have:=(a2h (by omega)).1 h; omega
   ·rw[← w3.fr.len,hpre.len _ hkl]
   ·refine w3.fr.ok d sd ?_
    rcases hcd with⟨j,oj,hjn,hlj,hoj,hdj,hsj⟩ | ⟨hno,hs0⟩
    ·have hj:=(a2h (by omega)).1 hlj
     rw[← hsj]
     exact hpre.keep (j + 1) tk.length (by omega) hkl fun k ok hk hki hok hdk=>by
      have:=a2g hpre.dsts hoj hok hdj hdk
      omega
    ·rw[← hs0]
     exact hpre.keep 0 tk.length (by omega) hkl fun k ok _ hki hok hdk=>hno k ok (by omega) ((a2h (by omega)).2 hki) hok hdk
   ·rw[htl0]
    exact w3.mr.strongK.pre tl
   ·refine Classical.byContradiction fun hne=>?_
    have:=w3.mr.dom r hne
    have:=hge i (by omega)
    omega
  ·cases h
theorem b97 {ops:Array Oper} {id:Nat} {Q:Exit→Act→World→Prop} {s s':St} {ps:List Prop} {ρ:Env} {a:Act} {W:World} (hT:TabOk P T) (h:a8z T ops s=some (ps,s')) (hp:∀ p∈ps,p) (hr:Rel T B w0 ρ s.slots s.mem a W)
  (hQ:∀ ρ a W,Rel T B w0 ρ s'.slots s'.mem a W→Q .normal a W):(Code.region id ops true).wp P Q a W:=
 Code.wp_mono (Q:=fun e a w=>e=.normal∧Q .normal a w) (fun e a w hq=>by obtain⟨rfl,hq⟩:=hq; exact hq) (wp_region_any hT.mixed (a6e hT h hp hr hQ))
end
end Go.Proofs.YtaeeaniofljmnaaGreatDoor.Sx

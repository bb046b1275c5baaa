/-
  A part of the proof (WxH).
-/
import Derived.Test.YtaeeaniofljmnaaGreatDoorWx9
namespace Go.Proofs.YtaeeaniofljmnaaGreatDoor.Sx
set_option linter.unusedSimpArgs false
set_option linter.unusedVariables false
open Go Go.RowKit
abbrev a6c:=List (Nat × Nat × SV)
def b1d:SV→Bool
 | .i _ _=>true
 | .sl _ _=>true
 | _=>false
def HeldIn (rs:a6c) (m:List MBlk):Prop:=∀ h,h∈rs→b1d h.2.2=true→∃ cs,m[h.1]?=some (.cells cs)∧cs[h.2.1]?=some h.2.2
def a60 (rs:a6c):Prop:=∀ h,h∈rs→∀ q n,h.2.2=.sl q n→∃ h',h'∈rs∧h'.1=q
def d59 (ρ:Env) (rs:a6c):World→Prop:=fun w=>∀ h,h∈rs→b1d h.2.2=true→∀ g c v,ρ h.1=some (some ⟨g,0,none⟩,c)→Den ρ h.2.2 v→w.cell? ⟨g,h.2.1,none⟩=some v
def c41 (W:World) (g:Nat):Prop:=∃ c e p,W.heap[g]?=some (.cells c e p)
def a64 (ρ:Env) (W1:World) (rs:a6c):World→Prop:=fun w=>d59 ρ rs w∧∀ g,ρ.S g→c41 W1 g→w.heap[g]?=W1.heap[g]?
def strongK (B:Lim) (ρ:Env) (W:World):Lim:=⟨fun g=>ρ.S g∧(B.keep g∨c41 W g),ρ.R⟩
theorem MR.strongK {B:Lim} {w0 W:World} {ρ:Env} {m:List MBlk} (h:MR B w0 W ρ m):MR (strongK B ρ W) W W ρ m:=⟨fun _ h=>h.1,fun _ h=>.inl h,h.hS,.refl _ _,h.blk,h.dom,h.xlt,h.xsep,h.xown,h.sep⟩
theorem MR.backK {B:Lim} {w0 W W':World} {ρ σ:Env} {m m':List MBlk} (h:MR B w0 W ρ m) (k:MR (Sx.strongK B ρ W) W W' σ m'):MR B w0 W' σ m':=
 ⟨fun g hg=>k.sub g ⟨h.sub g hg,.inl hg⟩,fun g hg=>by
  rcases k.rows g hg with h1 | h1
  ·exact h.rows g h1
  ·exact .inr fun hk=>h1 ⟨h.sub g hk,.inl hk⟩,k.hS,h.below.trans ⟨k.below.os,k.below.tape,k.below.output,k.below.size,fun g hg=>k.below.block g ⟨h.sub g hg,.inl hg⟩⟩,k.blk,k.dom,k.xlt,k.xsep,k.xown,k.sep⟩
theorem DfOk.strongK {B:Lim} {ρ:Env} {a:Act} {W:World} (h:DfOk B ρ a W):DfOk (Sx.strongK B ρ W) ρ a W:=by
 obtain⟨Ds,h1,h2,h3⟩:=h
 refine⟨Ds,h1,h2,fun D hD=>?_⟩
 obtain⟨q1,q2,q3⟩:=h3 D hD
 refine⟨q1,fun hk=>?_,q3⟩
 rcases hk.2 with hk | ⟨c,e,p,hk⟩
 ·exact q2 hk
 ·rw[q3] at hk; cases hk
theorem DfOk.backK {B:Lim} {w0 W W':World} {ρ σ:Env} {m:List MBlk} {a:Act} (hm:MR B w0 W ρ m) (h:DfOk (Sx.strongK B ρ W) σ a W'):DfOk B σ a W':=by
 obtain⟨Ds,h1,h2,h3⟩:=h
 exact⟨Ds,h1,h2,fun D hD=>by obtain⟨q1,q2,q3⟩:=h3 D hD; exact⟨q1,fun hk=>q2 ⟨hm.sub D hk,.inl hk⟩,q3⟩⟩
theorem HeldIn.app {rs:a6c} {m:List MBlk} (h:HeldIn rs m) (new:List MBlk):HeldIn rs (m ++ new):=fun x hx hv=>by
 obtain⟨cs,h1,h2⟩:=h x hx hv
 exact⟨cs,by rw[z0z (z0c.1 h1).1]; exact h1,h2⟩
theorem c6h {rs:a6c} {d:List Nat} (h:b50 rs d=true):∀ x∈rs,x.1 ∉ d:=by
 induction rs with
 | nil=>intro x hx; cases hx
 | cons y r ih =>
  intro x hx
  simp only[b50,z0d,z0v] at h
  rcases z0q.1 hx with rfl | hx
  ·intro hm; rw[a1k.2 hm] at h; exact absurd h.1 (by simp)
  ·exact ih h.2 x hx
theorem c3x {u:List (Nat × MBlk)}:∀ {m:List MBlk} {r:Nat},r ∉ u.map (·.1)→(z6 m u)[r]?=m[r]?:=by
 induction u with
 | nil=>intro m r _; rfl
 | cons p u ih =>
  intro m r hr
  obtain⟨q,k⟩:=p
  simp only[z2e,z0q,not_or] at hr
  simp only[z6]
  rw[ih hr.2,p8,if_neg (by omega)]
theorem d6p {l:List Nat}:∀ {g:List Nat},a3r l g=true→∀ r∈g,a0l r l=false:=by
 intro g
 induction g with
 | nil=>intro _ r hr; cases hr
 | cons x g ih =>
  intro h r hr
  simp only[a3r,z0d,z0v] at h
  rcases z0q.1 hr with rfl | hr
  ·exact h.1
  ·exact ih h.2 r hr
theorem HeldIn.opB {T:Tab} {ops:List Oper} {rs:a6c} {sl sl':List Slot} {m m':List MBlk} {o:Oper} {ps:List Prop} {ds:List Nat} (h:HeldIn rs m) (hcl:a60 rs) (hpr:∀ x∈rs,x.1∈a21 T) (hB:opB T ops sl m o=some (ps,sl',m',ds)) (hn:b50 rs ds=true):HeldIn rs m':=by
 unfold Sx.opB at hB
 split at hB
 ·cases hdf:w5 o.dst sl
  ·simp[hdf] at hB
  ·simp only[hdf,z0f] at hB
   split at hB
   ·rename_i b hb
    cases hgf:a3r b.kill (a21 T)
    ·simp[hgf] at hB
    ·simp only[hgf,z0f] at hB
     split at hB
     ·simp only[z0a,z0g] at hB
      obtain⟨rfl,rfl,rfl,rfl⟩:=hB
      rw[b3r]
      refine HeldIn.app (fun x hx hv=>?_) _
      obtain⟨cs,h1,h2⟩:=h x hx hv
      refine⟨t6 b.kill cs,?_,?_⟩
      ·rw[c3x (c6h hn x hx),a2j,h1]; rfl
      ·rw[a0z,h2]
       have key:a4s b.kill x.2.2=x.2.2:=by
        have hc:=hcl x hx
        revert hv hc
        generalize x.2.2=y
        intro hv hc
        cases y <;> simp only[b1d,z3c] at hv
        ·rfl
        ·obtain⟨h',h3,h4⟩:=hc _ _ rfl
         have:=d6p hgf _ (hpr h' h3)
         rw[h4] at this
         simp[a4s,SV.refs,this]
       simp[key]
     ·cases hB
   ·cases hB
 ·cases hB
theorem b11 {k L:Nat}:∀ {l:List Nat} {b:Nat},a5l k L b l=true→∀ {j a:Nat},l[j]?=some a→∀ i,i < b + j→k≤i→Nat.testBit L i=false→Nat.testBit a i=true:=by
 intro l
 induction l with
 | nil=>intro b _ j a h; simp at h
 | cons x r ih =>
  intro b h j a hj i hi hk hL
  simp only[a5l,z0d] at h
  cases j with
  | zero =>
   simp at hj
   subst hj
   have h1:=z0b h.1
   have h2:=congrArg (fun n=>Nat.testBit n i) h1
   simp only[Nat.testBit_and,Nat.testBit_or,Nat.one_shiftLeft,Nat.testBit_two_pow_sub_one] at h2
   have h3:decide (i < b)=true:=by simp; omega
   have h4:decide (i < k)=false:=by simp; omega
   simpa [h3,h4,hL] using h2
  | succ j=>exact ih h.2 (by simpa using hj) i (by omega) hk hL
theorem c2o {n:Nat}:∀ {l:List Oper} {i j:Nat},Nat.testBit (b4o n i l) j=true→j < n∧∃ o,i≤j∧l[j - i]?=some o∧b1h o=true:=by
 intro l
 induction l with
 | nil=>intro i j h; simp[b4o] at h
 | cons o r ih =>
  intro i j h
  simp only[b4o,Nat.testBit_or,z1u] at h
  rcases h with h | h
  ·cases hc:(b1h o && Nat.blt i n) <;> rw[hc] at h
   ·simp at h
   ·simp only[z0f,Nat.one_shiftLeft,Nat.testBit_two_pow,z1m] at h
    subst h
    simp only[z0d,z0x] at hc
    exact⟨hc.2,o,z0r _,by simp,hc.1⟩
  ·obtain⟨h1,o',h2,h3,h4⟩:=ih h
   refine⟨h1,o',by omega,?_,h4⟩
   rw[show j - i=(j - (i + 1)) + 1 by omega]
   simpa using h3
theorem a6z {ops:Array Oper} {L0:Nat} {lst:Array Bool}:∀ {n j:Nat},Nat.testBit (a80 ops L0 lst n) j=true→j < n∧Nat.testBit L0 j=true∧Region.free .any ops lst j=true:=by
 intro n
 induction n with
 | zero=>intro j h; simp[a80] at h
 | succ n ih =>
  intro j h
  simp only[a80,Nat.testBit_or,z1u] at h
  rcases h with h | h
  ·cases hc:(Nat.testBit L0 n && Region.free .any ops lst n) <;> rw[hc] at h
   ·simp at h
   ·simp only[z0f,Nat.one_shiftLeft,Nat.testBit_two_pow,z1m] at h
    subst h
    simp only[z0d] at hc
    exact⟨Nat.lt_succ_self _,hc.1,hc.2⟩
  ·obtain⟨h1,h2⟩:=ih h
   exact⟨by omega,h2⟩
theorem c20 {size L:Nat}:∀ {n j:Nat},j < size→(b13 size L n).getD j true=true→j < n∧Nat.testBit L j=false:=by
 intro n
 induction n with
 | zero=>intro j hj h; simp[b13,hj] at h
 | succ n ih =>
  intro j hj h
  simp only[b13] at h
  cases hb:Nat.testBit L n <;> rw[hb] at h
  ·simp only[z0l] at h
   by_cases e:j=n
   ·subst e; exact⟨Nat.lt_succ_self _,hb⟩
   ·rw[getD_set_ne true (Ne.symm e)] at h
    obtain⟨h1,h2⟩:=ih hj h
    exact⟨by omega,h2⟩
  ·obtain⟨h1,h2⟩:=ih hj h
   exact⟨by omega,h2⟩
theorem c5l {ops:Array Oper} {l1 l2:Array Bool} {i:Nat} (h:Region.free .any ops l1 i=true) (hl:∀ j,j < ops.size→l1.getD j true=true→l2.getD j true=true):Region.free .any ops l2 i=true:=by
 unfold Region.free at h ⊢
 split at h
 ·cases h
 ·rename_i oi hoi
  simp only[hoi,z2c,z2q,z1u] at h ⊢
  intro j hj
  rcases h j hj with(h1 | h1) | h1
  ·exact .inl (.inl h1)
  ·exact .inl (.inr (hl j hj h1))
  ·exact .inr h1
theorem c67 {P:Program} {o:Oper} {a:Act} {W:World} {K:Act→World→Prop} (hl:b1h o=true) (h:o.wp P a W K (fun _ _ _=>False)∨(o.asks P a W∧LetsOut (fun _ _ _=>False))):∃ v,(∀ w,(execOp a.eval o).run P w=.ok (.value v) w)∧K (a.put o.dst v) W:=by
 have hw:o.wp P a W K (fun _ _ _=>False):=h.elim id fun⟨_,_,_,hf⟩=>hf.elim
 unfold b1h at hl
 split at hl
 ·cases hl
 ·split at hl
  ·rename_i x ho
   have hx:∀ w,(execOp a.eval o).run P w=.ok (.value (a.eval x)) w:=fun w=>by simp[execOp,ho]
   refine⟨a.eval x,hx,?_⟩
   unfold Oper.wp at hw
   rw[hx W,Oper.upon_value] at hw
   exact hw
  ·rename_i x k ho
   cases hv:a.eval x with
   | tuple vs =>
    cases hk:vs[k]? with
    | some v =>
     have hx:∀ w,(execOp a.eval o).run P w=.ok (.value v) w:=fun w=>by simp[execOp,ho,hv,Instr.extract,hk]
     refine⟨v,hx,?_⟩
     unfold Oper.wp at hw
     rw[hx W,Oper.upon_value] at hw
     exact hw
    | none=>exact(by simp[Oper.wp,execOp,ho,hv,Instr.extract,hk,Oper.upon] at hw)
   | _=>exact(by simp[Oper.wp,execOp,ho,hv,Instr.extract,Oper.upon] at hw)
  ·cases hl
section
variable {P:Program} {T:Tab} {B:Lim} {w0:World}
theorem d2m {ops:Array Oper} {Q:Exit→Act→World→Prop} {an:List Nat} (han:an=x9 ops.toList []) (hed:a0o 0 ops.toList=true) {SS:World→Prop} {rs:List (Nat × Nat × SV)} {T:Tab} (hT:TabOk P T) (hSS:∀(sl:List Slot) (m:List MBlk) (ρ:Env) (a:Act) (W:World),Rel T B w0 ρ sl m a W→HeldIn rs m→SS W) (hclo:a60 rs) (hpr:∀ x∈rs,x.1∈a21 T) {n0 kk LL:Nat} (hkk:kk≤n0) (hLL:∀ i,Nat.testBit LL i=true→i < n0) (htl:a5l kk LL n0 (a1u n0 an)=true) :
  ∀(l:List Oper) (b:Nat) (s s':St) (ps:List Prop) (fuel:Nat) (listed:Array Bool) (ρ:Env) (a:Act) (W:World),n0≤b→b≤ops.toList.length→l=ops.toList.drop b→b6j T ops.toList rs l s=some (ps,s')→(∀ p∈ps,p) →
   Rel T B w0 ρ s.slots s.mem a W→HeldIn rs s.mem→listed.size=ops.toList.length→(∀ j,j < ops.toList.length→(listed.getD j false=true↔j < b))→ops.toList.length≤fuel + b →
   (∀ ρ a W,Rel T B w0 ρ (clean s'.slots) s'.mem a W→Q .normal a W)→wpAnyH P .any ops Q SS fuel listed a W:=by
 intro l
 induction l with
 | nil =>
  intro b s s' ps fuel listed ρ a W h0 hbl hl h _ hr hhd hsz hls _ hQ
  simp only[b6j,z0a,z0g] at h
  obtain⟨rfl,rfl⟩:=h
  have hb:b=ops.toList.length:=by
   have:(ops.toList.drop b).length=0:=by rw[← hl]; rfl
   rw[z3y] at this
   omega
  have hnone:Region.ready .any ops listed=[]:=by
   apply z3d.2
   intro i hi
   obtain⟨h1,o,ho,_⟩:=mem_ready.1 hi
   have hil:i < ops.toList.length:=by
    have:=(z0m.1 ho).1
    simpa using this
   rw[q8 (by omega),(hls i hil).2 (by omega)] at h1
   cases h1
  have hfin:=hQ ρ a W ⟨hr.fr.clean,hr.mr,hr.gl,hr.df⟩
  cases fuel with
  | zero=>exact⟨hnone,hfin⟩
  | succ f=>exact⟨fun _=>hfin,fun i hi=>by rw[hnone] at hi; cases hi⟩
 | cons o l ih =>
  intro b s s' ps fuel listed ρ a W h0 hbl hl h hp hr hhd hsz hls hfu hQ
  have hb:b < ops.toList.length:=by
   have:(ops.toList.drop b).length=l.length + 1:=by rw[← hl]; rfl
   rw[z3y] at this
   omega
  have ho:ops.toList[b]?=some o:=by
   have:(ops.toList.drop b)[0]?=some o:=by rw[← hl]; rfl
   simpa using this
  have hl':l=ops.toList.drop (b + 1):=by
   have:(ops.toList.drop b).drop 1=l:=by rw[← hl]; rfl
   rw[← this,List.drop_drop]
  have hanl:an.length=ops.toList.length:=by rw[han]; have:=(a0a ops.toList []).1; simpa using this
  have hcl:∀ j aj,an[j]?=some aj→listed.getD j true=true→∀ k,Nat.testBit aj k=true→listed.getD k false=true:=fun j aj haj hlj k hk=>by
   have hjl:j < ops.toList.length:=by
    have:=(z0c.1 haj).1
    omega
   rw[q8 (by omega)] at hlj
   have h1:=(hls j hjl).1 hlj
   have h2:=b7u han hed j aj haj k hk
   exact(hls k (by omega)).2 (by omega)
  have honly:∀ i∈Region.ready .any ops listed,i=b:=fun i hi=>by
   obtain⟨h1,o',ho',_⟩:=mem_ready.1 hi
   have hil:i < ops.toList.length:=by
    have:=(z0m.1 ho').1
    simpa using this
   have hib:¬ i < b:=fun hib=>by
    rw[q8 (by omega),(hls i hil).2 hib] at h1
    cases h1
   refine Classical.byContradiction fun hne=>?_
   obtain⟨ai,hai⟩:∃ ai,an[i]?=some ai:=⟨_,z0j (by omega)⟩
   have hd:(a1u n0 an)[i - n0]?=some ai:=by
    rw[a4k,z1s,show n0 + (i - n0)=i by omega]
    exact hai
   have:=a49 han hed hcl hsz hi hai b (b11 htl hd b (by omega) (by omega) (z1c.2 fun h=>by have:=hLL b h; omega))
   have:=(hls b hb).1 this
   omega
  have ho2:ops[b]?=some o:=by simpa using ho
  have hnext:∀ j,j < ops.toList.length→((listed.setIfInBounds b true).getD j false=true↔j < b + 1):=fun j hj=>by
   by_cases e:j=b
   ·subst e
    have hlt:j < listed.size:=by omega
    simp[hlt]
   ·rw[getD_set_ne false (Ne.symm e),hls j hj]
    omega
  have hstep:∀ f,ops.toList.length≤f + (b + 1)→if Region.wanted o (yielded ops a.tmps) then o.wp P a W (fun a' w'=>SS w'∧wpAnyH P .any ops Q SS f (listed.setIfInBounds b true) a' w') Q else(SS W∧wpAnyH P .any ops Q SS f (listed.setIfInBounds b true) (a.put o.dst undef) W):=fun f hf=>by
   simp only[b6j] at h
   split at h
   ·rename_i ps1 sl1 m1 hA
    split at h
    ·rename_i qs s1 hrest
     simp only[z0a,z0g] at h
     obtain⟨rfl,rfl⟩:=h
     have hhd1:HeldIn rs m1:=by
      obtain⟨new,hnew⟩:=(a1d hA).1
      rw[hnew]; exact hhd.app new
     exact b38 (P:=P) (ops:=ops) (Q:=Q) (K:=fun a' w'=>SS w'∧wpAnyH P .any ops Q SS f (listed.setIfInBounds b true) a' w') hT hr hA (fun p h=>hp p (z0n.2 (.inl h))) fun ρ' a' W' hr' =>
      ⟨hSS _ _ _ _ _ hr' hhd1,ih (b + 1) ⟨sl1,m1,s.dirty⟩ s1 qs f _ ρ' a' W' (by omega) (by omega) hl' hrest (fun p h=>hp p (z0n.2 (.inr h))) hr' hhd1 (by simpa using hsz) hnext hf hQ⟩
    ·cases h
   ·split at h
    ·rename_i ps1 sl1 m1 ds hB
     cases hni:b50 rs ds
     ·rw[hni] at h; cases h
     rw[hni,z0f] at h
     have hhd1:HeldIn rs m1:=hhd.opB hclo hpr hB hni
     split at h
     ·rename_i qs s1 hrest
      simp only[z0a,z0g] at h
      obtain⟨rfl,rfl⟩:=h
      exact b39 (P:=P) (ops:=ops) (Q:=Q) (K:=fun a' w'=>SS w'∧wpAnyH P .any ops Q SS f (listed.setIfInBounds b true) a' w') hT hr hB (fun p h=>hp p (z0n.2 (.inl h))) fun ρ' a' W' hr' =>
       ⟨hSS _ _ _ _ _ hr' hhd1,ih (b + 1) ⟨sl1,m1,ds ++ s.dirty⟩ s1 qs f _ ρ' a' W' (by omega) (by omega) hl' hrest (fun p h=>hp p (z0n.2 (.inr h))) hr' hhd1 (by simpa using hsz) hnext hf hQ⟩
     ·cases h
    ·cases h
  have step:∀(f:Nat),ops.toList.length≤f + (b + 1)→∀ i∈Region.ready .any ops listed,wpOp P ops Q i (fun a' w'=>SS w'∧wpAnyH P .any ops Q SS f (listed.setIfInBounds i true) a' w') a W:=fun f hf i hi=>by
   obtain rfl:=honly i hi
   have key:=hstep f hf
   unfold wpOp
   simp only[ho2]
   split
   ·rename_i hw
    rw[if_pos hw] at key
    exact .inl key
   ·rename_i hw
    rw[if_neg hw] at key
    exact key
  have hne:Region.ready .any ops listed≠[]:=fun hn=>by
   have hmem:b∈Region.ready .any ops listed:=mem_ready.2 ⟨by
    have:¬ listed.getD b false=true:=fun hh=>by have:=(hls b hb).1 hh; omega
    rw[q8 (by omega)]
    exact z1c.2 this,o,ho2,fun e he hbb=>by
     have:=a1f (a1g hed ho) (e:=e) (by simpa using he) hbb
     exact(hls e.on (by omega)).2 (by omega)⟩
   rw[hn] at hmem
   cases hmem
  cases fuel with
  | zero=>omega
  | succ f=>exact⟨fun hn=>absurd hn hne,step f (by omega)⟩
theorem d2l {ops:Array Oper} {Q:Exit→Act→World→Prop} {an:List Nat} {S:Nat→List Slot} {M:Nat→List MBlk} {p:Nat→List Prop} {ls:List (List Nat)} {s':St} {dirty:List Nat} {ps:List Prop} {SS:World→Prop} {rs:List (Nat × Nat × SV)} {T:Tab} (hT:TabOk P T) (hSS:∀(sl:List Slot) (m:List MBlk) (ρ:Env) (a:Act) (W:World),Rel T B w0 ρ sl m a W→HeldIn rs m→SS W) (hclo:a60 rs) (hpr:∀ x∈rs,x.1∈a21 T) (hSI:∀(ρ:Env) (m:List MBlk) (W:World),MR B w0 W ρ m→GlobOk T ρ→HeldIn rs m→SS W) (hhd:HeldIn rs (M ls.length)) {kk:Nat} (hkk:kk≤ls.length) (hns:Region.noSelect ops=true) (hQp:∀ c a w,¬ Q (.panic c) a w)
  (han:an=x9 ops.toList []) (hed:a0o 0 ops.toList=true) (hlk:a0t ops.toList an 0 ls an=true) (hcln:a11 (S 0)=true) (hpre:Pre ops.toList S ls.length)
  (hst:∀ i,i < ls.length→∃ o,ops.toList[i]?=some o∧opA T ops.toList (S i) (M i) o=some (p i,S (i + 1),M (i + 1))∧ls[i]?=some (a0i (S i) ops.toList o)) (hle:ls.length≤ops.toList.length) (hps:∀ i,i < ls.length→∀ q∈p i,q)
  (htl:a5l kk (b8j ops ls.length) ls.length (a1u ls.length an)=true) (hB:b6j T ops.toList rs (ops.toList.drop ls.length) ⟨S ls.length,M ls.length,dirty⟩=some (ps,s')) (hp:∀ q∈ps,q) (hQ:∀ ρ a W,Rel T B w0 ρ (clean s'.slots) s'.mem a W→Q .normal a W) :
  ∀(fuel:Nat) (listed:Array Bool) (a:Act) (W:World),Inv T B w0 ops.toList an S M ls.length listed a W→(∀ j,j < kk→listed.getD j false=true)→ops.toList.length≤fuel + listed.toList.count true→wpAnyH P .any ops Q SS fuel listed a W:=by
 have hanl:an.length=ops.toList.length:=by rw[han]; have:=(a0a ops.toList []).1; simpa using this
 intro fuel
 induction fuel with
 | zero =>
  intro listed a W hI hk0 hf
  exact done 0 listed a W hI (by
   have h1:listed.toList.count true≤ls.length:=cntle listed hI
   omega) (fun j hj=>Classical.byContradiction fun hne=>by
   have:=(b43 hI.size).2 ⟨j,by omega,z1c.2 hne⟩
   omega)
 | succ fuel ih =>
  intro listed a W hI hk0 hf
  by_cases hall:∀ j,j < ls.length→listed.getD j false=true
  ·exact done (fuel + 1) listed a W hI (by
    have h1:listed.toList.count true≤ls.length:=cntle listed hI
    omega) hall
  ·obtain⟨j,hj⟩:=Classical.not_forall.1 hall
   have hjn:j < ls.length:=Classical.byContradiction fun h=>hj (fun h'=>absurd h' h)
   have hjf:listed.getD j false=false:=z1c.2 fun h=>hj (fun _=>h)
   by_cases htl2:∃ i,i∈Region.ready .any ops listed∧ls.length≤i
   ·
    obtain⟨i,hi,hil⟩:=htl2
    have hilt:i < ops.toList.length:=by
     obtain⟨_,o',ho',_⟩:=mem_ready.1 hi
     have:=(z0m.1 ho').1
     simpa using this
    have hlate:∀ k,k < ls.length→listed.getD k false=false→Nat.testBit (b8j ops ls.length) k=true:=fun k hk hkf=>by
     refine Classical.byContradiction fun hne=>?_
     obtain⟨ai,hai⟩:∃ ai,an[i]?=some ai:=⟨_,z0j (by omega)⟩
     have hd:(a1u ls.length an)[i - ls.length]?=some ai:=by
      rw[a4k,z1s,show ls.length + (i - ls.length)=i by omega]
      exact hai
     have hjk:kk≤k:=z2d fun h=>by rw[hk0 k h] at hkf; cases hkf
     have:=a49 han hed hI.closed hI.size hi hai k (b11 htl hd k (by omega) hjk (z1c.2 hne))
     rw[this] at hkf
     cases hkf
    obtain⟨k,hk,hkf,hmin⟩:∃ k,k < ls.length∧listed.getD k false=false∧∀ q,q < k→listed.getD q false=true:=by
     have:∀ b,(∃ k,k < b∧k < ls.length∧listed.getD k false=false)→∃ k,k < ls.length∧listed.getD k false=false∧∀ q,q < k→listed.getD q false=true:=by
      intro b
      induction b with
      | zero=>rintro ⟨k,h,_⟩; omega
      | succ b ihb =>
       rintro ⟨k,h1,h2,h3⟩
       by_cases hex:∃ k,k < b∧k < ls.length∧listed.getD k false=false
       ·exact ihb hex
       ·have hkb:k=b:=by
         refine Classical.byContradiction fun hne=>hex ⟨k,by omega,h2,h3⟩
        subst hkb
        refine⟨k,h2,h3,fun q hq=>?_⟩
        cases hqv:listed.getD q false
        ·exact(hex ⟨q,hq,by omega,hqv⟩).elim
        ·rfl
     exact this (j + 1) ⟨j,Nat.lt_succ_self _,hjn,hjf⟩
    have hbit:=hlate k hk hkf
    obtain⟨_,hb0,hfree⟩:=a6z hbit
    obtain⟨_,o,_,hol,hop⟩:=c2o (n:=ls.length) (l:=ops.toList) (i:=0) (j:=k) (by rw[Nat.testBit_and,z0d] at hb0; exact hb0.1)
    simp only[Nat.sub_zero] at hol
    have ho2:ops[k]?=some o:=by simpa using hol
    have hready:k∈Region.ready .any ops listed:=mem_ready.2 ⟨by rw[q8 (by rw[hI.size]; omega)]; exact hkf,o,ho2,fun e he hbb=>by
     have:=a1f (a1g hed hol) (e:=e) (by simpa using he) hbb
     exact hmin e.on (by omega)⟩
    have hfr2:Region.free .any ops listed k=true:=c5l hfree fun q hq hqv=>by
     obtain⟨q1,q2⟩:=c20 hq hqv
     have hqs:q < listed.size:=by rw[hI.size]; simpa using hq
     rw[q8 hqs]
     cases hqf:listed.getD q false
     ·have hb:=hlate q q1 hqf
      rw[(a6z hb).2.1] at q2
      cases q2
     ·rfl
    have hstep:=b4i (Q:=fun _ _ _=>False) (K:=fun a' W'=>Inv T B w0 ops.toList an S M ls.length (listed.setIfInBounds k true) a' W') hT han hed hlk hcln hpre hst hle hps hI hk hready fun a' W' h=>h
    have hgd:o.guard=none:=by
     unfold b1h at hop
     split at hop
     ·cases hop
     ·assumption
    have hwant:Region.wanted o (yielded ops a.tmps)=true:=by simp[Region.wanted,hgd]
    unfold wpOp at hstep
    simp only[ho2,hwant,if_true] at hstep
    obtain⟨v,hv1,hv2⟩:=c67 hop hstep
    have hSW:SS W:=by obtain⟨ρ',_,_,q1,q2,_⟩:=hI.rel; exact hSI ρ' _ W q1 q2 hhd
    refine wpAnyH_take ho2 hns hfr2 (by simpa using hready) (fun c a w hq=>absurd hq (hQp _ _ _)) (.inl ⟨hwant,fun w _=>hv1 w⟩) hSW (ih _ _ W hv2 (fun j hj=>getD_set_true (hk0 j hj)) ?_)
    rw[b02 (by rw[hI.size]; omega) hkf]
    omega
   refine⟨fun hn=>?_,fun i hi=>?_⟩
   ·
    have least:∀ k,k < ls.length→listed.getD k false=true:=by
     intro k
     induction k using Nat.strongRecOn with
     | _ k ihk =>
      intro hk
      refine Classical.byContradiction fun hkf=>?_
      obtain⟨o,ho,_⟩:=hst k hk
      have:k∈Region.ready .any ops listed:=mem_ready.2 ⟨by rw[q8 (by rw[hI.size]; omega)]; exact z1c.2 hkf,o,by simpa using ho,fun e he hbb=>by
       have:=a1f (a1g hed ho) (e:=e) (by simpa using he) hbb
       exact ihk e.on (by omega) (by omega)⟩
      rw[hn] at this
      cases this
    rw[least j hjn] at hjf
    cases hjf
   ·obtain⟨h1,o',ho',_⟩:=mem_ready.1 hi
    have hil:i < ops.toList.length:=by
     have:=(z0m.1 ho').1
     simpa using this
    have hin:i < ls.length:=Nat.lt_of_not_le fun h=>htl2 ⟨i,hi,h⟩
    refine b4i hT han hed hlk hcln hpre hst hle hps hI hin hi fun a' W' hI'=>⟨(by obtain⟨ρ',_,_,q1,q2,_⟩:=hI'.rel; exact hSI ρ' _ W' q1 q2 hhd),ih _ a' W' hI' (fun j hj=>getD_set_true (hk0 j hj)) ?_⟩
    rw[b02 (by rw[hI.size]; omega) (by rw[← q8 (by rw[hI.size]; omega)]; exact h1)]
    omega
where
 cntle (listed:Array Bool) {a:Act} {W:World} (hI:Inv T B w0 ops.toList an S M ls.length listed a W):listed.toList.count true≤ls.length:=by
  have e:listed.toList.count true=(listed.toList.take ls.length).count true + (listed.toList.drop ls.length).count true:=by
   rw[← List.count_append,z3g]
  have h0:(listed.toList.drop ls.length).count true=0:=by
   rw[List.count_eq_zero]
   intro hm
   obtain⟨j,hj⟩:=z3t.1 hm
   rw[z1s] at hj
   have hlt:=(z0c.1 hj).1
   have hsz:listed.toList.length=ops.toList.length:=by rw[← hI.size]; simp
   have:=hI.tail (ls.length + j) (by omega) (by omega)
   simp at hj
   simp[hj] at this
  have h1:(listed.toList.take ls.length).count true≤(listed.toList.take ls.length).length:=List.count_le_length
  rw[List.length_take] at h1
  omega
 done (fuel:Nat) (listed:Array Bool) (a:Act) (W:World) (hI:Inv T B w0 ops.toList an S M ls.length listed a W) (hf:ops.toList.length≤fuel + ls.length) (hall:∀ j,j < ls.length→listed.getD j false=true):wpAnyH P .any ops Q SS fuel listed a W:=by
  obtain⟨ρ,hsz,hcur,hmr,hgl,hdf,_⟩:=hI.rel
  have hiff:∀ j,j < ops.toList.length→(listed.getD j false=true↔j < ls.length):=by
   intro j hj
   constructor
   ·intro h
    refine Classical.byContradiction fun hne=>?_
    have:=hI.tail j (by omega) hj
    rw[q8 (by rw[hI.size]; exact hj),h] at this
    cases this
   ·exact hall j
  refine d2m han hed hT hSS hclo hpr hkk (fun i hi=>(a6z hi).1) htl _ ls.length ⟨S ls.length,M ls.length,dirty⟩ s' ps fuel listed ρ a W (z0r _) hle rfl hB hp ⟨⟨by rw[hpre.len _ (z0r _),hsz],fun d s hs=>hcur d s ?_⟩,hmr,hgl,hdf⟩ hhd hI.size hiff hf hQ
  by_cases hw:∃ j oj,j < ls.length∧ops.toList[j]?=some oj∧oj.dst=some d
  ·obtain⟨j,oj,hjn,hoj,hdj⟩:=hw
   refine .inl ⟨j,oj,hjn,hall j hjn,hoj,hdj,?_⟩
   rw[← hs]
   exact(hpre.keep (j + 1) ls.length (by omega) (z0r _) fun k ok hk hki hok hdk=>by
    have:=a39 hpre.dsts hoj hok hdj hdk
    omega).symm
  ·refine .inr ⟨fun j oj hjn _ hoj hdj=>hw ⟨j,oj,hjn,hoj,hdj⟩,?_⟩
   rw[← hs]
   exact(hpre.keep 0 ls.length (by omega) (z0r _) fun k ok _ hki hok hdk=>hw ⟨k,ok,hki,hok,hdk⟩).symm
theorem b9y {ρ0 ρ:Env} {x:SV} {u v:Value} (hx:b1d x=true) (hp:∀ q n,x=.sl q n→∀ y,ρ0 q=some y→ρ q=some y) (h0:Den ρ0 x v) (h1:Den ρ x u):u=v:=by
 cases x <;> simp only[b1d,z3c] at hx
 ·rw[h0.i_inv,h1.i_inv]
 ·cases h0 with
  | sl e0 _=>cases h1 with
   | sl e1 _ =>
    have:=hp _ _ rfl _ e0
    rw[this] at e1
    simp only[z0a,z0g] at e1
    rw[e1.1,e1.2]
theorem b4h {ρ0 ρ:Env} {rs:a6c} {m:List MBlk} {W:World} (hm:MR B w0 W ρ m) (hh:HeldIn rs m) (hcl:a60 rs) (hp:∀ h,h∈rs→∀ y,ρ0 h.1=some y→ρ h.1=some y):d59 ρ0 rs W:=fun h hr hv g c v hg hd0=>by
 obtain⟨cs,h1,h2⟩:=hh h hr hv
 have hρ:=hp h hr _ hg
 obtain⟨g',ty,vs,c',e1,_,e3,e4⟩:=hm.blk h.1 _ h1 (by rw[hρ]; simp)
 rw[hρ] at e1
 simp only[z0a,z0g,z2f,and_true] at e1
 obtain⟨rfl,rfl⟩:=e1
 obtain⟨u,hu,hd⟩:=e4.get h2
 rw[cell_of_row W g h.2.1 vs.toArray ty (0,0) e3]
 have e:=b9y (ρ0:=ρ0) (ρ:=ρ) hv (fun q n hq y hy=>by
  obtain⟨h',k1,k2⟩:=hcl h hr q n hq
  have:=hp h' k1 y (by rw[k2]; exact hy)
  rwa [k2] at this) hd0 hd
 rw[← e]
 simpa using hu
theorem b6n {w W:World} {g:Nat} (h:w.heap[g]?=W.heap[g]?) {a:Addr} (ha:a.block=g):w.cell? a=W.cell? a:=by
 subst ha
 unfold World.cell?
 rw[h]
theorem b70 {ρ:Env} {W:World} {t:Nat} {ti:TI} {cs:List SV} {off:Nat} {v:SV} {b:Addr} (ht:a1l P t ti=true) (h:loadAt ti cs off=some v) (hcell:∀ j x,cs[j]?=some x→∃ u,W.cell? (b.add j)=some u∧Den ρ x u) :
  ∃ u,(∀ w:World,(∀ j u,W.cell? (b.add j)=some u→w.cell? (b.add j)=some u)→(loadVar t (b.add off)).run P w=.ok u w)∧Den ρ v u:=by
 obtain⟨i,hi,hsz,_,_⟩:=u7 ht
 have hagg:=fun w=>a6t ht w
 rcases b4r h with(⟨hk,rfl,hl⟩ | ⟨h0,rfl,hk⟩) | ⟨hk,hv⟩
 ·rw[hk] at hagg
  have hex:∃ us:List Value,us.length=ti.size∧∀ j,j < ti.size→∃ u,us[j]?=some u∧W.cell? ((b.add off).add j)=some u∧∀ x,cs[off + j]?=some x→Den ρ x u:=by
   refine⟨(List.range ti.size).map fun j=>(W.cell? ((b.add off).add j)).getD undef,by simp,fun j hj=>?_⟩
   have hj':off + j < cs.length:=by omega
   obtain⟨u,hu,hd⟩:=hcell (off + j) _ (z0j hj')
   rw[z9]
   refine⟨u,?_,hu,fun x hx=>by rw[z0j hj'] at hx; simp only[z0a] at hx; subst hx; exact hd⟩
   rw[z3n,List.getElem?_range hj]
   simp[z9,hu]
  obtain⟨us,hlen,hus⟩:=hex
  refine⟨.agg us.toArray,fun w hw=>?_,.agg (by simp[hlen]; omega) fun j x u hx hu=>?_⟩
  ·have:=run_loadCells_list (P:=P) w (b.add off) us (fun j u hu=>by
    have hj:j < ti.size:=by have:=(z0c.1 hu).1; omega
    obtain⟨u',h1,h2,_⟩:=hus j hj
    rw[hu] at h1
    simp only[z0a] at h1
    subst h1
    rw[z9] at h2 ⊢
    exact hw _ _ h2)
   rw[hlen] at this
   simp[loadVar,hagg w,sizeOf,typeInfo,hi,hsz,this]
  ·have hj:j < ti.size:=by have:=(z0c.1 hu).1; omega
   obtain⟨u',h1,_,h3⟩:=hus j hj
   rw[hu] at h1
   simp only[z0a] at h1
   subst h1
   refine h3 x ?_
   rw[z1y,if_pos hj,z1s] at hx
   exact hx
 ·rw[hk] at hagg
  refine⟨.agg #[],fun w _=>?_,.agg (vs:=[]) rfl (fun j x u hx=>by simp at hx)⟩
  have:=run_loadCells_list (P:=P) w (b.add off) [] (fun j u hu=>by simp at hu)
  simp only[z3o] at this
  simp[loadVar,hagg w,sizeOf,typeInfo,hi,hsz,h0,this]
 ·rw[hk] at hagg
  obtain⟨u,hu,hd⟩:=hcell off v hv
  exact⟨u,fun w hw=>by simp[loadVar,hagg w,hw _ _ hu],hd⟩
theorem d3n {ops:Array Oper} {ρ:Env} {rs h:a6c} {sl sl':List Slot} {m m':List MBlk} {o:Oper} {ps:List Prop} {a:Act} {W:World} (hT:TabOk P T) (hr:Rel T B w0 ρ sl m a W) (hA:opA T ops.toList sl m o=some (ps,sl',m')) (hp:∀ p∈ps,p) (htk:b9i T sl m o=some h) (hsub:∀ x∈h,x∈rs):∃ v,m'=m∧YieldsIf P ops (a64 ρ W rs) o v a∧Rel T B w0 ρ sl' m (a.put o.dst v) W:=by
 have hg:o.guard=none:=by
  unfold b9i at htk
  split at htk
  ·cases htk
  ·assumption
 have hwant:Region.wanted o (yielded ops a.tmps)=true:=by simp[Region.wanted,hg]
 unfold opA at hA
 simp only[hg,a52,b3z,z0y] at hA
 cases hdf:(w5 o.dst sl && a8g o.dst [])
 ·simp[hdf] at hA
 simp only[hdf,z0f] at hA
 rw[z0d] at hdf
 split at hA
 ·rename_i ar har
  split at hA
  ·rename_i sl1 hput
   simp only[z0a,z0g] at hA
   obtain⟨rfl,rfl,rfl⟩:=hA
   have hpre:∀ p∈ar.pre,p:=by
    have:∀(l:List Prop),(∀ p∈a7r sl [] l,p)→∀ p∈l,p:=by
     intro l
     induction l with
     | nil=>intro _ p hp; cases hp
     | cons x r ih =>
      intro h p hp
      simp only[a7r,b2a] at h
      rcases z0q.1 hp with rfl | hp
      ·exact h _ (by simp)
      ·exact ih (fun q hq=>h q (by simp[hq])) p hp
    exact(b5u (this _ hp)).1
   have hsu:=(b5u (T:=T) (dst:=o.dst) (v:=ar.sv) (ps:=ar.pre) (by
    have:∀(l:List Prop),(∀ p∈a7r sl [] l,p)→∀ p∈l,p:=by
     intro l
     induction l with
     | nil=>intro _ p hp; cases hp
     | cons x r ih =>
      intro h p hp
      simp only[a7r,b2a] at h
      rcases z0q.1 hp with rfl | hp
      ·exact h _ (by simp)
      ·exact ih (fun q hq=>h q (by simp[hq])) p hp
    exact this _ hp)).2
   have hs:OpsOk ρ sl a o.op.operands.toList:=fun t s _ hn hsat=>by rw[v7] at hn; exact(hr.fr.ok t s hn).1 hsat
   have hc:sat a []:=fun q w hq=>by cases hq
   have fin:∀ {v:Value},ar.new=[]→Den ρ ar.sv v→(∀ w,a64 ρ W rs w→(execOp a.eval o).run P w=.ok (.value v) w)→∃ v,app m ar.new=m∧YieldsIf P ops (a64 ρ W rs) o v a∧Rel T B w0 ρ sl1 m (a.put o.dst v) W:=fun {v} hn hd hy =>
    ⟨v,by rw[hn]; rfl,.inl ⟨hwant,hy⟩,hr.fr.put (fun _ _ h=>h) hput hdf.1 (fun d _=>by simp) (.inl ⟨hc,hsu _ _ hd⟩),hr.mr,hr.gl,hr.df.step (a0d _ _) (fun _ h=>h) (fun _ _=>rfl)⟩
   unfold b9i at htk
   simp only[hg] at htk
   split at htk
   ·rename_i x ho
    rw[ho] at har hs
    simp only[t9] at har
    obtain⟨sv,hsv,rfl⟩:=a0q har
    exact fin rfl (g9 hr.gl hsv (hs.sub (by simp[Op.operands])) hc) (fun w _=>by simp[execOp,ho])
   ·rename_i t x y ho
    rw[ho] at har hs
    obtain⟨v,h1,h2,h3⟩:=idxA (P:=P) hT ho hr.gl (hs.sub (by simp[Op.operands])) hc har hpre
    exact fin h3 h2 (fun w _=>h1 w)
   ·rename_i t x k ho
    rw[ho] at har hs
    obtain⟨v,h1,h2,h3⟩:=fldA (P:=P) hT ho hr.gl (hs.sub (by simp[Op.operands])) hc har
    exact fin h3 h2 (fun w _=>h1 w)
   ·rename_i t x ho
    split at htk
    ·rename_i ti r off hti hx
     split at htk
     ·rename_i cs hcs
      have fin2:∀ {y:SV},nth cs off=some y→b1d y=true→(r,off,y)∈h→(Nat.beq ti.kind 1 || Nat.beq ti.kind 2)=false→∃ v,app m ar.new=m∧YieldsIf P ops (a64 ρ W rs) o v a∧Rel T B w0 ρ sl1 m (a.put o.dst v) W:=fun {y} hn hy hin hkk=>by
       rw[ho] at har hs
       obtain⟨b,c,hρ,ex⟩:=(g9 hr.gl hx (hs.sub (by simp[Op.operands])) hc).ptr_inv
       simp only[t9,hti,hx,hcs,loadAt,hkk,z0l,hn] at har
       cases har
       obtain⟨g,ty,vs,c',e1,_,e3,e4⟩:=hr.mr.blk r _ (u6 hcs) (by rw[hρ]; simp)
       rw[hρ] at e1
       simp only[z0a,z0g] at e1
       obtain⟨rfl,_⟩:=e1
       obtain⟨v,_,hdv⟩:=e4.get (u6 hn)
       have hagg:∀ w,(isAgg t).run P w=.ok false w:=fun w=>by rw[a6t (hT.types t ti hti) w,hkk]
       refine fin (v:=v) rfl hdv (fun w hw=>?_)
       have hcell:=hw.1 _ (hsub _ hin) hy g c v hρ hdv
       have e0:(Addr.add ⟨g,0,none⟩ off)=⟨g,off,none⟩:=by rw[a6d]; simp
       have hld:(loadVar t ⟨g,off,none⟩).run P w=.ok v w:=by
        simp only[loadVar,z1b,hagg,z0p,z3c,if_false]
        rw[run_load,hcell]
       simp only[execOp,ho,ex,e0,Instr.loadAt,Instr.sureAddr,z1b,z3r,z0p,hld]
      split at htk
      ·rename_i k n hn
       cases hkk:(Nat.beq ti.kind 1 || Nat.beq ti.kind 2) <;> rw[hkk] at htk <;> cases htk
       exact fin2 hn rfl (by simp) hkk
      ·rename_i q n hn
       cases hkk:(Nat.beq ti.kind 1 || Nat.beq ti.kind 2) <;> rw[hkk] at htk <;> cases htk
       exact fin2 hn rfl (by simp) hkk
      ·cases htk
     ·rename_i cs hcs
      cases htk
      rw[ho] at har hs
      obtain⟨b,c,hρ,ex⟩:=(g9 hr.gl hx (hs.sub (by simp[Op.operands])) hc).ptr_inv
      simp only[t9,hti,hx,hcs] at har
      obtain⟨v,hv,rfl⟩:=a0q har
      obtain⟨a',c',e1,hS,e3⟩:=hr.mr.blk r _ (u6 hcs) (by rw[hρ]; simp)
      rw[hρ] at e1
      simp only[z0a,z0g] at e1
      obtain⟨rfl,_⟩:=e1
      obtain⟨u,hu,hd⟩:=b70 (P:=P) (ρ:=ρ) (W:=W) (b:=b) (hT.types t ti hti) hv e3
      refine fin (v:=u) rfl hd (fun w hw=>?_)
      have:=hu w (fun j u' hu'=>by
       have hbr:c41 W b.block:=by
        unfold World.cell? at hu'
        rw[block_add] at hu'
        split at hu'
        ·rename_i c e p hh; exact⟨c,e,p,hh⟩
        ·cases hu'
       rw[b6n (hw.2 b.block hS hbr) (by rw[block_add])]
       exact hu')
      simp only[execOp,ho,ex,Instr.loadAt,Instr.sureAddr,z1b,z3r,z0p,this]
     ·cases htk
    ·rename_i ti q sz ix off hti hx
     split at htk
     ·rename_i n cols hcs
      cases hk3:(Nat.beq ti.kind 3 || (Nat.beq ti.kind 1 && Nat.beq ti.size 2)) <;> rw[hk3] at htk <;> cases htk
      rw[ho] at har hs
      obtain⟨b,c,hρ,ex⟩:=(g9 hr.gl hx (hs.sub (by simp[Op.operands])) hc).pix_inv
      rw[z1j] at hk3
      obtain⟨hk3,hk4⟩:=hk3
      simp only[t9,hti,hx,hcs,b0h,b8p,hk3,hk4,Bool.false_and,z0l] at har
      cases hsz:Nat.beq sz cols.length
      ·simp[hsz] at har
      ·simp only[hsz,z0f] at har
       have hsz:=z0b hsz
       split at har
       ·rename_i v hv
        cases har
        have hix:ix < n:=hpre _ (by simp)
        obtain⟨A,k',e1,_,e2⟩:=hr.mr.blk q _ (u6 hcs) (by rw[hρ]; simp)
        rw[hρ] at e1
        simp only[z0a,z0g] at e1
        obtain⟨rfl,_⟩:=e1
        obtain⟨b',e',hS,e3⟩:=e2 (by omega)
        simp only[z0a] at e'
        subst e'
        obtain⟨u,hu,hd⟩:=b70 (P:=P) (ρ:=ρ) (W:=W) (b:=b.add (ix * sz)) (hT.types t ti hti) hv (fun j x hx=>by
         rw[b4e,z0k] at hx
         obtain⟨col,hc,rfl⟩:=hx
         obtain⟨u,h1,h2⟩:=e3 ix hix j col hc
         exact⟨u,by rw[z9,hsz]; exact h1,b44 ρ h2⟩)
        refine fin (v:=u) rfl hd (fun w hw=>?_)
        have:=hu w (fun j u' hu'=>by
         have hbr:c41 W b.block:=by
          unfold World.cell? at hu'
          rw[block_add,block_add] at hu'
          split at hu'
          ·rename_i c e p hh; exact⟨c,e,p,hh⟩
          ·cases hu'
         rw[b6n (hw.2 b.block hS hbr) (by rw[block_add,block_add])]
         exact hu')
        rw[z9] at this
        simp only[execOp,ho,ex,Instr.loadAt,Instr.sureAddr,z1b,z3r,z0p,this]
       ·cases har
     ·cases htk
    ·cases htk
   ·rename_i cl ho
    split at htk
    ·rename_i x hcal hargs
     split at htk
     ·rename_i r n hx
      cases htk
      rw[ho] at har hs
      have hdx:=g9 hr.gl hx (hs.sub (by intro y hy; simp only[z0t] at hy; subst hy; simp only[Op.operands,Call.operands]; simp; exact .inr (by simpa using(show y∈cl.args.toList by rw[hargs]; simp)))) hc
      obtain⟨A,k,_,ex,_⟩:=hdx.sl_inv
      simp only[t9,hcal,hargs,a3f,hx,b1i,a2m] at har
      cases hsl:a2s T cl.argTypes.toList
      ·rw[hsl] at har; cases har
      rw[hsl,z0f] at har
      cases har
      obtain⟨t,el,ht,hu⟩:=b2f hT hsl
      refine fin (v:=.int .i64 n) rfl (.i _ _) (fun w _=>?_)
      have e:cl.args.map a.eval = #[.slice A n k]:=by
       have:cl.args.toList.map a.eval=[.slice A n k]:=by rw[hargs]; simp[ex]
       apply Array.ext'; simpa using this
      simp only[execOp,ho,resolve,hcal,z1b,z3r,z0p,invoke]
      rw[e]
      simp[builtin,Builtin.len_,ht,run_underlying hu,goInt]
     ·cases htk
    ·cases htk
   ·rename_i t x y ho
    cases hsu:a0l 1000001 T.sure
    case true=>rw[hsu] at htk; cases htk
    rw[hsu,z0l] at htk
    split at htk
    ·rename_i ti r n kb b hti hx hy
     split at htk
     ·rename_i n' cols hm
      cases htk
      rw[ho] at har hs
      have hdx:=g9 hr.gl hx (hs.sub (by simp[Op.operands])) hc
      have hdy:=g9 hr.gl hy (hs.sub (by simp[Op.operands])) hc
      have hsn:a8d T sl m [] t x none (some y)=none:=by simp only[a8d,hsu,z0l]
      simp only[t9,hsn,hti,hx,a7b,hy] at har
      split at har
      ·rename_i te hte
       cases hk:Nat.beq ti.kind 3
       ·simp[hk] at har
       ·simp only[hk,z0f,b9c,hm,a6s,c30,z0l,z0a] at har
        subst har
        have p1:n=n':=hpre _ (by simp)
        have p2:0≤b:=hpre _ (by simp)
        have p3:b≤n:=hpre _ (by simp)
        subst p1
        obtain⟨hu,_⟩:=u5 (hT.types t ti hti) (z0b hk)
        obtain⟨i,hi',hsz,_,_⟩:=u7 (hT.types _ te hte)
        have hel:P.elem t=ti.elem:=by simp[Program.elem,hu]
        have hu':P.underlying t=some (.slice (P.elem t)):=by rw[hel]; exact hu
        obtain⟨A,k,hρ,e,hne⟩:=hdx.sl_inv
        obtain⟨A',c',h1,h2,h3⟩:=hr.mr.blk r _ (u6 hm) (by rw[hρ]; simp)
        rw[hρ] at h1
        simp only[z0a,z0g] at h1
        obtain⟨rfl,rfl⟩:=h1
        have eh:=hdy.i_inv
        refine fin (v:=sliced A 0 b.toNat k te.size) rfl (.sub hρ fun h0=>⟨hne (by omega),by rw[if_neg (by omega)]⟩) (fun w _=>?_)
        have hso:(sizeOf (P.elem t)).run P w=.ok te.size w:=by rw[hel]; simp[sizeOf,typeInfo,hi',hsz]
        simp only[execOp,ho,z3s,z2p,z1b,e,eh,run_sliceAt_slice w t _ _ _ _ hu',run_slice_h w t A n k hu' kb b p2 (by omega),hso,z0p]
        rfl
      ·cases har
     ·cases htk
    ·cases htk
   ·cases htk
  ·cases hA
 ·cases hA
section pinned
variable (f:Nat→Option Addr × Nat) (rs:a6c)
theorem a5y (sl:List Slot) (c:List (Nat × Bool)) (x:Operand):t5 (T.pinned f rs) sl c x=t5 T sl c x:=rfl
theorem c1t (sl:List Slot) (c:List (Nat × Bool)) (xs:List Operand):a3f (T.pinned f rs) sl c xs=a3f T sl c xs:=by
 induction xs with
 | nil=>rfl
 | cons x r ih=>simp only[a3f,a5y,ih]
theorem a9v (sl:List Slot) (c:List (Nat × Bool)) (xs:List (Nat × Operand)):a1m (T.pinned f rs) sl c xs=a1m T sl c xs:=by
 induction xs with
 | nil=>rfl
 | cons x r ih=>obtain⟨k,x⟩:=x; simp only[a1m,a5y,ih]
theorem b62 (sl:List Slot) (c:List (Nat × Bool)) (x:Option Operand):a7b (T.pinned f rs) sl c x=a7b T sl c x:=by cases x <;> rfl
theorem b3h:(T.pinned f rs).types=T.types:=rfl
theorem d1m:(T.pinned f rs).calls=T.calls:=rfl
theorem c7u:(T.pinned f rs).callsB=T.callsB:=rfl
theorem a9p (t:Nat):a3t (T.pinned f rs) t=a3t T t:=rfl
theorem b1n (t:Nat):a36 (T.pinned f rs) t=a36 T t:=rfl
theorem e02 (t:Nat) (op:BinOp) (x y:SV):bin (T.pinned f rs) t op x y=bin T t op x y:=rfl
theorem c5t (ts:List Nat):a2s (T.pinned f rs) ts=a2s T ts:=rfl
theorem b6k (b:Builtin) (ts:List Nat) (vs:List SV):a2m (T.pinned f rs) b ts vs=a2m T b ts vs:=by
 unfold a2m
 have e:c02 (T.pinned f rs) ts=c02 T ts:=rfl
 simp only[c5t,e]
theorem b3u (sl:List Slot) (c:List (Nat × Bool)) (x:Callee):a4i (T.pinned f rs) sl c x=a4i T sl c x:=by
 unfold a4i
 simp only[a5y]
theorem c9u (sl:List Slot) (m:List MBlk) (c:List (Nat × Bool)) (t len:Nat) (ps:Array (Nat × Operand)):b1x (T.pinned f rs) sl m c t len ps=b1x T sl m c t len ps:=by
 unfold b1x
 simp only[a9v,b3h]
 rfl
theorem d0x (sl:List Slot) (m:List MBlk) (c:List (Nat × Bool)) (t:Nat) (x:Operand) (lo hi:Option Operand):a8d (T.pinned f rs) sl m c t x lo hi=a8d T sl m c t x lo hi:=by
 unfold a8d
 simp only[a5y,b62,b3h]
 rfl
theorem d0u (sl:List Slot) (m:List MBlk) (op:Op):settle (T.pinned f rs) sl m op=settle T sl m op:=by
 unfold settle
 simp only[a5y]
theorem c8m (m:List MBlk) (b:Builtin) (ts:List Nat) (vs:List SV):b1i (T.pinned f rs) m b ts vs=b1i T m b ts vs:=rfl
theorem d37 (sl:List Slot) (m:List MBlk) (c:List (Nat × Bool)) (t:Nat) (op:Op):t9 (T.pinned f rs) sl m c t op=t9 T sl m c t op:=by
 unfold t9
 simp only[a5y,c1t,a9v,b62,b3h,d1m,a9p,b1n,e02,b6k,c8m,b3u,c9u,d0x]
theorem c8p (sl:List Slot) (m:List MBlk) (c:List (Nat × Bool)) (t:Nat) (x y z:Operand):a9q (T.pinned f rs) sl m c t x y z=a9q T sl m c t x y z:=by
 unfold a9q
 simp only[a5y,a9p,b1n]
theorem d38 (sl:List Slot) (m:List MBlk) (c:List (Nat × Bool)) (op:Op):a22 (T.pinned f rs) sl m c op=a22 T sl m c op:=by
 unfold a22
 simp only[a5y,c1t,a9v,b62,b3h,c7u,a9p,b1n,b3u,c8p]
end pinned
theorem d3a (f:Nat→Option Addr × Nat) (rs:a6c) (d:Option Nat) (v:SV):b7j (T.pinned f rs) d v=b7j T d v:=rfl
theorem d39 (f:Nat→Option Addr × Nat) (rs:a6c) (d:Option Nat) (v:SV) (ps:List Prop):c1n (T.pinned f rs) d v ps=c1n T d v ps:=rfl
theorem b51 (f:Nat→Option Addr × Nat) (rs:a6c) (ops:List Oper) (sl:List Slot) (m:List MBlk) (o:Oper):opA (T.pinned f rs) ops sl m o=opA T ops sl m o:=by
 unfold opA
 simp only[d37,d3a,d39]
theorem c12 (f g:Nat→Option Addr × Nat) (rs:a6c):a21 (T.pinned f rs)=a21 (T.pinned g rs):=by
 have h2:∀(ps:List (Nat × (Option Addr × Nat))) (rs:a6c),a94 (rs.map (fun h=>(h.1,f h.1)) ++ ps)=a94 (rs.map (fun h=>(h.1,g h.1)) ++ ps):=by
  intro ps rs
  induction rs with
  | nil=>rfl
  | cons x r ih=>simp only[z2e,List.cons_append,a94]; rw[ih]
 have h1:∀(G:List (Nat × Nat)) (p q:List (Nat × (Option Addr × Nat))),a94 p=a94 q→a85 G p=a85 G q:=by
  intro G
  induction G with
  | nil=>intro p q h; exact h
  | cons x G ih=>intro p q h; simp only[a85]; rw[ih _ _ h]
 exact h1 _ _ _ (h2 T.pins rs)
theorem c2y (f g:Nat→Option Addr × Nat) (rs:a6c) (ops:List Oper) (sl:List Slot) (m:List MBlk) (o:Oper):opB (T.pinned f rs) ops sl m o=opB (T.pinned g rs) ops sl m o:=by
 have e:∀ h,b7h (T.pinned h rs) sl m o.op=b7h T sl m o.op:=fun h=>by
  unfold b7h
  simp only[d38,d0u]
 unfold opB
 rw[e f,e g,c12 f g rs]
theorem c1d (f g:Nat→Option Addr × Nat) (rs rs2:a6c) (ops:List Oper):∀(l:List Oper) (s:St),b6j (T.pinned f rs) ops rs2 l s=b6j (T.pinned g rs) ops rs2 l s:=by
 intro l
 induction l with
 | nil=>intro s; rfl
 | cons o l ih =>
  intro s
  simp only[b6j,b51]
  rw[c2y f g rs]
  split
  ·rw[ih]
  ·split
   ·cases b50 rs2 _
    ·rfl
    ·simp only[z0f]; rw[ih]
   ·rfl
theorem d13 {ops:List Oper}:∀ {tail:List Oper} {S:Nat→List Slot} {M:Nat→List MBlk} {n:Nat},(∀ i,i < n→∃ o p,tail[i]?=some o∧opA T ops (S i) (M i) o=some (p,S (i + 1),M (i + 1))) →
  ∀ i h,(c7e T ops tail (S 0) (M 0))[i]?=some h→i < n→∃ o,tail[i]?=some o∧b9i T (S i) (M i) o=some h:=by
 intro tail
 induction tail with
 | nil=>intro S M n _ i h hi; simp[c7e] at hi
 | cons o rest ih =>
  intro S M n hst i h hi hin
  simp only[c7e] at hi
  split at hi
  ·rename_i h0 ps sl' m' htk hA
   cases i with
   | zero =>
    simp at hi
    subst hi
    exact⟨o,rfl,htk⟩
   | succ i =>
    obtain⟨o',p',ho',hA'⟩:=hst 0 (by omega)
    simp at ho'
    subst ho'
    rw[hA] at hA'
    simp only[z0a,z0g] at hA'
    obtain⟨_,e1,e2⟩:=hA'
    have:=ih (S:=fun i=>S (i + 1)) (M:=fun i=>M (i + 1)) (n:=n - 1) (fun j hj=>by
     obtain⟨oj,pj,h1,h2⟩:=hst (j + 1) (by omega)
     exact⟨oj,pj,by simpa using h1,h2⟩) i h (by rw[← e1,← e2]; simpa using hi) (by omega)
    simpa using this
  ·simp at hi
theorem a6h {tk:List a6c} {x:Nat × Nat × SV}:x∈b6t tk↔∃(i:Nat) (h:a6c),tk[i]?=some h∧x∈h:=by
 induction tk with
 | nil=>simp[b6t]
 | cons h r ih =>
  simp only[b6t,z0n,ih]
  constructor
  ·rintro (hx | ⟨i,h',h1,h2⟩)
   ·exact⟨0,h,rfl,hx⟩
   ·exact⟨i + 1,h',by simpa using h1,h2⟩
  ·rintro ⟨i,h',h1,h2⟩
   cases i with
   | zero=>simp at h1; subst h1; exact .inl h2
   | succ i=>exact .inr ⟨i,h',by simpa using h1,h2⟩
theorem d3m {sl:List Slot} {m:List MBlk} {o:Oper} {h:a6c} (htk:b9i T sl m o=some h):HeldIn h m∧a60 h:=by
 have nil:HeldIn [] m∧a60 []:=⟨fun x hx=>(by cases hx),fun x hx=>(by cases hx)⟩
 unfold b9i at htk
 split at htk
 ·cases htk
 ·split at htk
  ·cases htk; exact nil
  ·cases htk; exact nil
  ·cases htk; exact nil
  ·split at htk
   ·split at htk
    ·rename_i cs hcs
     split at htk
     ·rename_i k n hn
      generalize (Nat.beq _ 1 || Nat.beq _ 2)=bb at htk
      cases bb
      ·simp only[z0l,z0a] at htk
       subst htk
       refine⟨fun x hx _=>?_,fun x hx q n hq=>?_⟩
       ·obtain rfl:=z0t.1 hx
        exact⟨cs,u6 hcs,u6 hn⟩
       ·obtain rfl:=z0t.1 hx
        cases hq
      ·cases htk
     ·rename_i q n hn
      generalize (Nat.beq _ 1 || Nat.beq _ 2)=bb at htk
      cases bb
      ·simp only[z0l,z0a] at htk
       subst htk
       refine⟨fun x hx hv=>?_,fun x hx q' n' hq=>?_⟩
       ·rcases z0q.1 hx with rfl | hx
        ·exact⟨cs,u6 hcs,u6 hn⟩
        ·obtain rfl:=z0t.1 hx
         cases hv
       ·rcases z0q.1 hx with rfl | hx
        ·simp only[SV.sl.injEq] at hq
         exact⟨(q,0,.dead),by simp,hq.1⟩
        ·obtain rfl:=z0t.1 hx
         cases hq
      ·cases htk
     ·cases htk
    ·cases htk; exact nil
    ·cases htk
   ·split at htk
    ·generalize (Nat.beq _ 3 || (Nat.beq _ 1 && Nat.beq _ 2))=bb at htk
     cases bb
     ·cases htk; exact nil
     ·cases htk
    ·cases htk
   ·cases htk
  ·split at htk
   ·split at htk
    ·cases htk; exact nil
    ·cases htk
   ·cases htk
  ·generalize a0l 1000001 T.sure=bb at htk
   cases bb
   ·simp only[z0l] at htk
    split at htk
    ·split at htk
     ·cases htk; exact nil
     ·cases htk
    ·cases htk
   ·cases htk
  ·cases htk
theorem a4l (n:Nat):∀ i,(a1v n i).size=n:=by
 intro i
 induction i with
 | zero=>simp[a1v]
 | succ i ih=>simp[a1v,ih]
theorem a3a {n:Nat}:∀ {i j:Nat},j < n→((a1v n i).getD j false=true↔j < i):=by
 intro i
 induction i with
 | zero=>intro j hj; simp[a1v,hj]
 | succ i ih =>
  intro j hj
  simp only[a1v]
  by_cases e:j=i
  ·subst e
   have:j < (a1v n j).size:=by rw[a4l]; exact hj
   simp[this]
  ·rw[getD_set_ne false (Ne.symm e),ih hj]
   omega
theorem b86 {n:Nat}:∀ {i:Nat},i≤n→(a1v n i).toList.count true=i:=by
 intro i
 induction i with
 | zero=>intro _; simp[a1v,List.count_replicate]
 | succ i ih =>
  intro hi
  simp only[a1v]
  rw[b02 (by rw[a4l]; omega) (z1c.2 fun h=>by have:=(a3a (by omega)).1 h; omega),ih (by omega)]
theorem c3s {ops:Array Oper}:∀ {k:Nat},b5z ops k=true→∀ i,i < k→Region.free .any ops (a1v ops.size i) i=true∧(Region.ready .any ops (a1v ops.size i)).contains i=true:=by
 intro k
 induction k with
 | zero=>intro _ i hi; omega
 | succ k ih =>
  intro h i hi
  simp only[b5z,z0d] at h
  by_cases e:i=k
  ·subst e; exact h.1
  ·exact ih h.2 i (by omega)
theorem a7f {ops:Array Oper} {Q:Exit→Act→World→Prop} {s s':St} {ps:List Prop} {ρ:Env} {a:Act} {W:World} (hT:TabOk P T) (h:b06 T ops s=some (ps,s')) (hp:∀ p∈ps,p) (hr:Rel T B w0 ρ s.slots s.mem a W)
  (hQ:∀ ρ a W,Rel T B w0 ρ s'.slots s'.mem a W→Q .normal a W):wpAny P .any ops (fun e a w=>e=.normal∧Q .normal a w) ops.size (Array.replicate ops.size false) a { W with drawn:=W.drawn + 1 }:=by
 unfold b06 at h
 generalize hA:b1z T ops.toList ops.toList s.slots s.mem=res at h
 obtain⟨ps1,sl1,m1,ls,r⟩:=res
 simp only at h
 generalize htk:c7e T ops.toList ops.toList s.slots s.mem=tk at h
 cases hc:(a11 s.slots && a0o 0 ops.toList && a62 ops.toList && a0t ops.toList (x9 ops.toList []) 0 ls (x9 ops.toList []) && a5l tk.length (b8j ops ls.length) ls.length (a1u ls.length (x9 ops.toList [])) && Nat.ble tk.length ls.length && Region.noSelect ops && b5z ops tk.length)
 ·simp[hc] at h
 ·rw[hc] at h
  simp only[z0f] at h
  simp only[z0d] at hc
  obtain⟨⟨⟨⟨⟨⟨⟨hcln,hed⟩,hds⟩,hlk⟩,htl⟩,hkl⟩,hns⟩,hfree⟩:=hc
  have hkl:=z1t hkl
  split at h
  ·rename_i qs s1 hB
   simp only[z0a,z0g] at h
   obtain⟨rfl,rfl⟩:=h
   obtain⟨S,M,p,h1,h2,h3,h4,h5,h6,h7⟩:=a9t _ _ _ _ _ _ _ _ hA
   have hanl:(x9 ops.toList []).length=ops.toList.length:=by have:=(a0a ops.toList []).1; simpa using this
   have hst:∀ i,i < ls.length→∃ o,ops.toList[i]?=some o∧opA T ops.toList (S i) (M i) o=some (p i,S (i + 1),M (i + 1))∧ls[i]?=some (a0i (S i) ops.toList o):=fun i hi=>by
    obtain⟨o,k1,k2,k3,_⟩:=h7 i hi
    exact⟨o,k1,k2,k3⟩
   have hps:∀ i,i < ls.length→∀ q∈p i,q:=fun i hi q hq=>by
    obtain⟨o,_,_,_,k4⟩:=h7 i hi
    exact hp q (z0n.2 (.inl (k4 q hq)))
   have hpre:Pre ops.toList S ls.length:=⟨fun i hi=>by
     obtain⟨o,k1,k2,_⟩:=hst i hi
     obtain⟨s,hs⟩:=(a1d k2).2.1
     exact⟨o,s,k1,hs⟩,fun i hi o ho=>by
     obtain⟨o',k1,k2,_⟩:=hst i hi
     rw[ho] at k1
     simp only[z0a] at k1
     subst k1
     exact(a1d k2).2.2,hds⟩
   have hBel:Below W.heap.size W { W with drawn:=W.drawn + 1 }:=⟨rfl,rfl,rfl,z0r _,fun _ _=>rfl⟩
   have hMn:∀ j,j < ls.length→∃ new,M (j + 1)=M j ++ new:=fun j hj=>by
    obtain⟨oj,_,hAj,_⟩:=hst j hj
    exact(a1d hAj).1
   obtain⟨tl,htl0⟩:=a9a hMn 0 ls.length (by omega) (z0r _)
   have hge:∀ j,j≤ls.length→(M 0).length≤(M j).length:=fun j hj=>by
    obtain⟨n1,e1⟩:=a9a hMn 0 j (by omega) hj
    rw[e1]; simp
   have htks:∀ i hh,tk[i]?=some hh→∃ o,ops.toList[i]?=some o∧b9i T (S i) (M i) o=some hh:=fun i hh hi=>by
    have:=d13 (T:=T) (S:=S) (M:=M) (n:=ls.length) (ops:=ops.toList) (tail:=ops.toList) (fun j hj=>by obtain⟨o,k1,k2,_⟩:=hst j hj; exact⟨o,p j,k1,k2⟩) i hh (by rw[h1,h2,htk]; exact hi) (by have:=(z0c.1 hi).1; omega)
    exact this
   let rs:=b6t tk
   let W1:World:={ W with drawn:=W.drawn + 1 }
   have hr1:Rel T B w0 ρ (S 0) (M 0) a W1:=by
    have:=hr.mr.grow (new:=[]) hBel (fun _ _=>rfl) (.refl _ _ _) (.nil _ _ _ _)
    rw[z1n] at this
    rw[h1,h2]
    exact⟨hr.fr,this,hr.gl,hr.df⟩
   have walk:∀(j:Nat),j≤tk.length→M j=M 0∧(∀ i hh,i < j→tk[i]?=some hh→(HeldIn hh (M 0)∧a60 hh)∧∀ x∈hh,ρ x.1≠none) ∧
     ∃ aj,Rel T B w0 ρ (S j) (M 0) aj W1∧∀(Qn:Exit→Act→World→Prop) (fuel:Nat),(∀ c a w,¬ Qn (.panic c) a w)→(∀ x∈rs,ρ x.1≠none)→HeldIn rs (M 0)→a60 rs→wpAnyH P .any ops Qn (a64 ρ W1 rs) fuel (a1v ops.size j) aj W1→wpAnyH P .any ops Qn (a64 ρ W1 rs) (fuel + j) (a1v ops.size 0) a W1:=by
    intro j
    induction j with
    | zero=>intro _; exact⟨rfl,fun i hh hi=>absurd hi (z2m _),a,hr1,fun Qn fuel _ _ _ _ h=>h⟩
    | succ j ih =>
     intro hj
     obtain⟨e1,e2,aj,e3,e4⟩:=ih (by omega)
     obtain⟨o,ho,hAo,_⟩:=hst j (by omega)
     have htj:tk[j]?=some tk[j]:=z0j (by omega)
     obtain⟨o',ho',htko⟩:=htks j _ htj
     rw[ho] at ho'
     simp only[z0a] at ho'
     subst ho'
     rw[e1] at hAo htko
     have hρn:∀ x∈tk[j],ρ x.1≠none:=by
      intro x hx
      have hslot:∀(q n:Nat) (cs:List SV) (r off:Nat),nth (M 0) r=some (.cells cs)→ρ r≠none→nth cs off=some (.sl q n)→ρ q≠none:=fun q n cs r off h1 h2 h3=>by
       obtain⟨_,_,vs,_,_,_,_,e4⟩:=e3.mr.blk r _ (u6 h1) h2
       obtain⟨v,_,hd⟩:=e4.get (u6 h3)
       cases hd with
       | sl e _=>rw[e]; simp
      have htko':=htko
      unfold b9i at htko'
      split at htko'
      ·cases htko'
      ·split at htko'
       ·simp only[z0a] at htko'; rw[← htko'] at hx; cases hx
       ·simp only[z0a] at htko'; rw[← htko'] at hx; cases hx
       ·simp only[z0a] at htko'; rw[← htko'] at hx; cases hx
       ·split at htko'
        ·rename_i ti r off hti hux
         obtain⟨b,c,hρ,_⟩:=(g9 e3.gl hux (fun t st _ hn hsat=>by rw[v7] at hn; exact(e3.fr.ok t st hn).1 hsat) (fun q w hq=>by cases hq)).ptr_inv
         have hρr:ρ r≠none:=by rw[hρ]; simp
         split at htko'
         ·rename_i cs hcs
          split at htko'
          ·cases hb:(Nat.beq ti.kind 1 || Nat.beq ti.kind 2) <;> rw[hb] at htko' <;> simp only[z0f,z0l,reduceCtorEq,z0a] at htko'
           rw[← htko'] at hx
           obtain rfl:=z0t.1 hx
           exact hρr
          ·rename_i q n hn
           cases hb:(Nat.beq ti.kind 1 || Nat.beq ti.kind 2) <;> rw[hb] at htko' <;> simp only[z0f,z0l,reduceCtorEq,z0a] at htko'
           rw[← htko'] at hx
           rcases z0q.1 hx with rfl | hx
           ·exact hρr
           ·obtain rfl:=z0t.1 hx
            exact hslot q n cs r off hcs hρr hn
          ·cases htko'
         ·simp only[z0a] at htko'; rw[← htko'] at hx; cases hx
         ·cases htko'
        ·split at htko'
         ·cases hb:(Nat.beq (_:TI).kind 3 || (Nat.beq (_:TI).kind 1 && Nat.beq (_:TI).size 2)) <;> rw[hb] at htko' <;> simp only[z0f,z0l,reduceCtorEq,z0a] at htko'
          rw[← htko'] at hx; cases hx
         ·cases htko'
        ·cases htko'
       ·split at htko'
        ·split at htko'
         ·simp only[z0a] at htko'; rw[← htko'] at hx; cases hx
         ·cases htko'
        ·cases htko'
       ·generalize a0l 1000001 T.sure=bb at htko'
        cases bb
        ·simp only[z0l] at htko'
         split at htko'
         ·split at htko'
          ·simp only[z0a] at htko'; rw[← htko'] at hx; cases hx
          ·cases htko'
         ·cases htko'
        ·cases htko'
       ·cases htko'
     have hM:M (j + 1)=M 0∧∃ a2,Rel T B w0 ρ (S (j + 1)) (M 0) a2 W1∧∀(Qn:Exit→Act→World→Prop) (fuel:Nat),(∀ c a w,¬ Qn (.panic c) a w)→(∀ x∈rs,ρ x.1≠none)→HeldIn rs (M 0)→a60 rs→wpAnyH P .any ops Qn (a64 ρ W1 rs) fuel (a1v ops.size (j + 1)) a2 W1→wpAnyH P .any ops Qn (a64 ρ W1 rs) (fuel + 1) (a1v ops.size j) aj W1:=by
      obtain⟨v,g1,g2,g3⟩:=d3n (rs:=rs) (h:=tk[j]) hT e3 hAo (hps j (by omega)) htko (fun x hx=>a6h.2 ⟨j,tk[j],htj,hx⟩)
      refine⟨g1,_,g3,fun Qn fuel hQn hρs hin hcl hw=>?_⟩
      obtain⟨f1,f2⟩:=c3s hfree j (by omega)
      exact wpAnyH_take (oi:=o) (by simpa using ho) hns f1 f2 (fun c a w hq=>absurd hq (hQn _ _ _)) g2 ⟨b4h e3.mr hin hcl (fun _ _ _ hy=>hy),fun _ _ _=>rfl⟩ hw
     obtain⟨m1',a2,m2,m3⟩:=hM
     refine⟨m1',fun i hh hi hih=>?_,a2,m2,fun Qn fuel hQn hρs hin hcl hw=>?_⟩
     ·by_cases e:i=j
      ·subst e
       rw[htj] at hih
       simp only[z0a] at hih
       subst hih
       exact⟨d3m htko,hρn⟩
      ·exact e2 i hh (by omega) hih
     ·have:=e4 Qn (fuel + 1) hQn hρs hin hcl (m3 Qn fuel hQn hρs hin hcl hw)
      rw[show fuel + (j + 1)=fuel + 1 + j by omega]
      exact this
   obtain⟨w1,w2,ak,w3,w4⟩:=walk tk.length (z0r _)
   have hin0:HeldIn rs (M 0):=fun x hx=>by
    obtain⟨i,hh,hi,hxh⟩:=a6h.1 hx
    exact(w2 i hh (z0c.1 hi).1 hi).1.1 x hxh
   have hclo:a60 rs:=fun x hx q n hq=>by
    obtain⟨i,hh,hi,hxh⟩:=a6h.1 hx
    obtain⟨y,hy,e⟩:=(w2 i hh (z0c.1 hi).1 hi).1.2 x hxh q n hq
    exact⟨y,a6h.2 ⟨i,hh,hi,hy⟩,e⟩
   have hρs:∀ x∈rs,ρ x.1≠none:=fun x hx=>by
    obtain⟨i,hh,hi,hxh⟩:=a6h.1 hx
    exact(w2 i hh (z0c.1 hi).1 hi).2 x hxh
   let f:Nat→Option Addr × Nat:=fun r=>(ρ r).getD (none,0)
   have hpin:∀ x∈rs,ρ x.1=some (f x.1):=fun x hx=>by
    obtain⟨y,hy⟩:=z1z.1 (hρs x hx)
    simp[f,hy]
   have hT':TabOk P (T.pinned f rs):=⟨hT.mixed,hT.types,hT.ints,hT.calls,hT.callsB,hT.inl,fun k hk=>by obtain⟨h1,h2,x,h3⟩:=hT.back k hk; exact⟨h1,z0n.2 (.inr h2),x,z0n.2 (.inr h3)⟩⟩
   have hG':GlobOk (T.pinned f rs) ρ:=⟨hr.gl.gl,fun q hq=>by
    rcases z0n.1 hq with hq | hq
    ·obtain⟨x,hx,rfl⟩:=z2b.1 hq
     exact hpin x hx
    ·exact hr.gl.pin q hq⟩
   have hold:∀ {ρ':Env},GlobOk (T.pinned f rs) ρ'→∀ x,x∈rs→∀ y,ρ x.1=some y→ρ' x.1=some y:=fun {ρ'} hg x hx y hy=>by
    have h1:=hg.pin (x.1,f x.1) (z0n.2 (.inl (z2b.2 ⟨x,hx,rfl⟩)))
    rw[hpin x hx] at hy
    rw[← hy]
    exact h1
   let Qn:Exit→Act→World→Prop:=fun e a w=>e=.normal∧Q .normal a w
   refine wpAny_of_held (Q:=Qn) (S:=a64 ρ W1 rs) _ _ _ _ ?_
   have hsz:ops.size=(ops.size - tk.length) + tk.length:=by
    have:ops.toList.length=ops.size:=by simp
    omega
   have hfin:=w4 Qn (ops.size - tk.length) (fun c a w hq=>by cases hq.1) hρs hin0 hclo ?_
   ·rw[hsz]
    have e0:a1v (ops.size - tk.length + tk.length) 0=Array.replicate (ops.size - tk.length + tk.length) false:=rfl
    rw[← hsz] at e0 ⊢
    rw[← hsz] at hfin
    exact hfin
   have hopsz:ops.toList.length=ops.size:=by simp
   have hprt:∀ x∈rs,x.1∈a21 (T.pinned f rs):=fun x hx=>a9r.2 (.inr ⟨f x.1,z0n.2 (.inl (z2b.2 ⟨x,hx,rfl⟩))⟩)
   refine d2l (p:=p) (B:=strongK B ρ W1) (w0:=W1) (dirty:=s.dirty) (T:=T.pinned f rs) (rs:=rs) (SS:=a64 ρ W1 rs) (s':=s1) (ps:=qs) (S:=S) (M:=M) (Q:=Qn) hT' (fun sl m ρ' a' W' hr' hh=>⟨b4h hr'.mr hh hclo (hold hr'.gl),fun g hg hb=>hr'.mr.below.block g ⟨hg,.inr hb⟩⟩) hclo hprt (fun ρ' m W' hm' hg' hh=>⟨b4h hm' hh hclo (hold hg'),fun g hg hb=>hm'.below.block g ⟨hg,.inr hb⟩⟩) (by rw[htl0]; exact hin0.app tl) hkl hns (fun c a w hq=>by cases hq.1) rfl hed hlk (by rw[h1]; exact hcln) hpre (fun i hi=>by obtain⟨o,k1,k2,k3⟩:=hst i hi; exact⟨o,k1,by rw[b51]; exact k2,k3⟩) h6 hps htl ?_ (fun q hq=>hp q (z0n.2 (.inr hq))) (fun ρ' a' W' hr'=>⟨rfl,hQ ρ' a' W' ⟨hr'.fr,w3.mr.backK hr'.mr,⟨hr'.gl.gl,fun q hq=>hr'.gl.pin q (z0n.2 (.inr hq))⟩,DfOk.backK w3.mr hr'.df⟩⟩) _ _ _ _ ⟨by rw[a4l,hopsz],fun j aj haj hlj k hk=>?_,fun j hjn hjl=>?_,ρ,?_,fun d sd hcd=>?_,?_,hG',w3.df.strongK,fun i hi _ r hr1 _=>?_⟩ (fun j hj=>(a3a (by omega)).2 hj) (by rw[b86 (by omega)]; omega)
   ·rw[c1d f (fun _=>(none,0)) rs,h3,h4,← h5]; exact hB
   ·have hjl:j < ops.size:=by have:=(z0c.1 haj).1; omega
    rw[q8 (by rw[a4l]; exact hjl)] at hlj
    have hj:=(a3a hjl).1 hlj
    have hkj:=b7u rfl hed j aj haj k hk
    exact(a3a (by omega)).2 (by omega)
   ·rw[q8 (by rw[a4l]; omega)]
    exact z1c.2 fun h=>by have:=(a3a (by omega)).1 h; omega
   ·rw[← w3.fr.len,hpre.len _ hkl]
   ·refine w3.fr.ok d sd ?_
    rcases hcd with⟨j,oj,hjn,hlj,hoj,hdj,hsj⟩ | ⟨hno,hs0⟩
    ·have hj:=(a3a (by omega)).1 hlj
     rw[← hsj]
     exact hpre.keep (j + 1) tk.length (by omega) hkl fun k ok hk hki hok hdk=>by
      have:=a39 hpre.dsts hoj hok hdj hdk
      omega
    ·rw[← hs0]
     exact hpre.keep 0 tk.length (by omega) hkl fun k ok _ hki hok hdk=>hno k ok (by omega) ((a3a (by omega)).2 hki) hok hdk
   ·rw[htl0]
    exact w3.mr.strongK.pre tl
   ·refine Classical.byContradiction fun hne=>?_
    have:=w3.mr.dom r hne
    have:=hge i (by omega)
    omega
  ·cases h
theorem c15 {ops:Array Oper} {id:Nat} {Q:Exit→Act→World→Prop} {s s':St} {ps:List Prop} {ρ:Env} {a:Act} {W:World} (hT:TabOk P T) (h:b06 T ops s=some (ps,s')) (hp:∀ p∈ps,p) (hr:Rel T B w0 ρ s.slots s.mem a W)
  (hQ:∀ ρ a W,Rel T B w0 ρ s'.slots s'.mem a W→Q .normal a W):(Code.region id ops true).wp P Q a W:=
 Code.wp_mono (Q:=fun e a w=>e=.normal∧Q .normal a w) (fun e a w hq=>by obtain⟨rfl,hq⟩:=hq; exact hq) (wp_region_any hT.mixed (a7f hT h hp hr hQ))
end
end Go.Proofs.YtaeeaniofljmnaaGreatDoor.Sx

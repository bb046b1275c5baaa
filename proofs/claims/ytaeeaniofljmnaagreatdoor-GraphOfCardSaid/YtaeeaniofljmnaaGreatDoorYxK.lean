/-
  A part of the proof (YxK).
-/
import Derived.Test.YtaeeaniofljmnaaGreatDoorYxO
import Derived.Test.YtaeeaniofljmnaaGreatDoorYx10
import Derived.RangeFuncRecord
import Derived.RangeFuncIn
import Derived.TacticsIn
import Derived.OrdersIn
import Derived.LoopNIn
namespace Go.Proofs.YtaeeaniofljmnaaGreatDoor.Sx
set_option linter.unusedSimpArgs false
set_option linter.unusedVariables false
open Go Go.RowKit
def FW (ro:Option Nat):Fence:={ Fence.wide with round:=ro }
theorem b9b {ro:Option Nat} {n:Nat} {P:Program} {row:String} {args:Array Value} {w:World} {R:Value→World→Prop} (h:Rows P row args w R):RowsIn (FW ro) n P row args w R:=
 fun c cs _=>let ⟨v,w',r,s⟩:=h c cs; ⟨v,w',r,stepsIn_wide.2 s⟩
theorem b2g {ro:Option Nat} {n:Nat} {P:Program} {f:FuncId} {args:Array Value} {w:World} {R:Ending→World→Prop} (h:Calls P f args w R):CallsIn (FW ro) n P f args w R:=(callsIn_wide (n:=n)).2 h
section
variable {P:Program} {T:Tab} {ρ σ:Env} {sl:List Slot} {a:Act} {c:List (Nat × Bool)} {B:Lim} {W w0:World} {m:List MBlk} {o:Oper} {ro:Option Nat} {n:Nat}
theorem a6b {Q:Exit→Act→World→Prop} {K:Act→World→Prop} (hd:ro≠none→∀ c,o.op≠.defer c) (h:o.wp P a W K Q):o.wpIn (FW ro) n P a W K Q:=by
 refine⟨fun _ _=>trivial,?_⟩
 have e:o.semAt ro a.eval=execOp a.eval o:=by
  cases ro with
  | none=>rfl
  | some l=>exact Oper.semAt_eq _ _ _ (hd (by simp))
 show o.uponIn (FW ro) n P a K Q ((o.semAt ro a.eval).run P W)
 rw[e]
 unfold Oper.wp at h
 generalize (execOp a.eval o).run P W=r at *
 cases r with
 | ok x w' =>
  cases x <;> simp only[Oper.upon,Oper.uponIn] at h ⊢ <;> first
   | exact h
   | exact⟨fun hh=>(by cases hh),b2g h⟩
   | exact⟨fun hh=>(by cases hh),b9b h⟩
   | exact h.elim
 | halt x w'=>cases x <;> simp only[Oper.upon,Oper.uponIn] at h ⊢ <;> exact h
theorem b6u {ops:Array Oper} {Q:Exit→Act→World→Prop} {K:Act→World→Prop} (hd:ro≠none→∀ c,o.op≠.defer c) (h:if Region.wanted o (yielded ops a.tmps) then o.wp P a W K Q else K (a.put o.dst undef) W) :
  if Region.wanted o (yielded ops a.tmps) then o.wpIn (FW ro) n P a W K Q else(∀ f,o.about P W a.eval=some f→(FW ro).fn f)∧K (a.put o.dst undef) W:=by
 split
 ·rename_i hw; rw[if_pos hw] at h; exact a6b hd h
 ·rename_i hw; rw[if_neg hw] at h; exact⟨fun _ _=>trivial,h⟩
theorem b0c {l:List Oper} (h:a5g l=true):∀ o∈l,∀ c,o.op≠.defer c:=by
 induction l with
 | nil=>intro o ho; cases ho
 | cons x r ih =>
  simp only[a5g,z0d] at h
  intro o ho c hc
  rcases z0s.1 ho with rfl | ho
  ·rw[hc] at h; exact absurd h.1 (by simp)
  ·exact ih h.2 o ho c hc
theorem c5x (q:Nat) (w:Bool):∀(sl:List Slot) (d j:Nat),(know q w d sl)[j]?=(sl[j]?).map (fun s=>bif b6l (q,!w) s.ch then⟨[],.dead⟩ else⟨a6s q w s.ch,bif Nat.beq (d + j) q then(bif w then .tt else .ff) else s.sv⟩):=by
 intro sl
 induction sl with
 | nil=>intro d j; simp[know]
 | cons s r ih =>
  intro d j
  cases j with
  | zero=>simp[know]
  | succ j=>simp only[know,z1t,ih]; rw[show d + 1 + j=d + (j + 1) by omega]
theorem b8h (q:Nat) (w:Bool):∀(sl:List Slot) (d:Nat),(know q w d sl).length=sl.length:=by
 intro sl
 induction sl with
 | nil=>intro d; rfl
 | cons s r ih=>intro d; simp[know,ih]
theorem b3y {q:Nat} {w:Bool} (hq:a.tmps.getD q undef=.bool w) {c:List (Nat × Bool)} (hn:b6l (q,!w) c=false):sat a (a6s q w c)↔sat a c:=by
 have hn':(q,!w) ∉ c:=fun h=>by rw[b86.2 h] at hn; cases hn
 have hm:∀(c:List (Nat × Bool)) p v,(p,v)∈a6s q w c↔((p,v)∈c∧p≠q):=by
  intro c
  induction c with
  | nil=>intro p v; simp[a6s]
  | cons x r ih =>
   intro p v
   obtain⟨p',v'⟩:=x
   simp only[a6s]
   cases hb:Nat.beq p' q
   ·have hne:p'≠q:=fun e=>by rw[e,z2g] at hb; cases hb
    simp only[z0m,z0s,ih,z0g]
    constructor
    ·rintro (⟨rfl,rfl⟩ | ⟨h1,h2⟩)
     ·exact⟨.inl ⟨rfl,rfl⟩,hne⟩
     ·exact⟨.inr h1,h2⟩
    ·rintro ⟨h1 | h1,h2⟩
     ·exact .inl h1
     ·exact .inr ⟨h1,h2⟩
   ·have he:=z0b hb
    simp only[z0f,ih,z0s,z0g]
    constructor
    ·rintro ⟨h1,h2⟩; exact⟨.inr h1,h2⟩
    ·rintro ⟨⟨rfl,rfl⟩ | h1,h2⟩
     ·exact absurd he h2
     ·exact⟨h1,h2⟩
 constructor
 ·intro h p v hpv
  by_cases e:p=q
  ·subst e
   have:v=w:=by
    cases v <;> cases w <;> first | rfl | exact absurd hpv hn'
   rw[this]; exact hq
  ·exact h p v ((hm c p v).2 ⟨hpv,e⟩)
 ·intro h p v hpv
  exact h p v ((hm c p v).1 hpv).1
theorem FR.know {q:Nat} {w:Bool} (h:FR ρ sl a) (hq:a.tmps.getD q undef=.bool w):FR ρ (Sx.know q w 0 sl) a:=by
 refine⟨by rw[b8h]; exact h.len,fun d s hs=>?_⟩
 rw[c5x,z0h] at hs
 obtain⟨s0,h0,rfl⟩:=hs
 have hk:=h.ok d s0 h0
 cases hc:b6l (q,!w) s0.ch
 ·simp only[z0m,z1d]
  refine⟨fun hs=>?_,fun hs=>hk.2 (fun hs'=>hs ((b3y hq hc).2 hs'))⟩
  simp only
  cases hb:Nat.beq d q
  ·exact hk.1 ((b3y hq hc).1 hs)
  ·obtain rfl:=z0b hb
   rw[hq]
   cases w
   ·exact .ff
   ·exact .tt
 ·exact⟨fun _=>.dead _,fun hn=>absurd (fun q w hq=>by cases hq) hn⟩
theorem c1p:∀(c:List (Nat × Bool)) (sl:List Slot) (K:Bool→List Slot→Prop),c1o c sl K→FR ρ sl a→∃ ok sl',K ok sl'∧FR ρ sl' a∧(ok=true→sat a c)∧(ok=false→¬ sat a c):=by
 intro c
 induction c with
 | nil=>intro sl K h hf; exact⟨true,sl,h,hf,(fun _ q w hq=>by cases hq),(fun h=>by cases h)⟩
 | cons x r ih =>
  obtain⟨q,w⟩:=x
  intro sl K h hf
  obtain⟨ok,sl',hk,hf',h1,h2⟩:=ih sl _ h hf
  cases ok with
  | false=>exact⟨false,sl',hk,hf',(fun h=>by cases h),fun _ hs=>h2 rfl fun p v hp=>hs p v (z0w _ hp)⟩
  | true =>
   simp only at hk
   split at hk
   ·rename_i x hn
    have hv:a.tmps.getD q undef=.bool x:=((hf'.ok q _ (by rw[← t0]; exact hn)).1 (fun q w hq=>by cases hq)).b_inv
    by_cases hx:x=w
    ·subst hx
     refine⟨true,_,hk.1 rfl,hf'.know hv,fun _ p v hp=>?_,fun h=>by cases h⟩
     rcases z0s.1 hp with e | hp
     ·cases e; exact hv
     ·exact h1 rfl p v hp
    ·have hx':x = !w:=by cases x <;> cases w <;> simp at hx ⊢
     subst hx'
     refine⟨false,_,hk.2 rfl,hf'.know hv,(fun h=>by cases h),fun _ hs=>?_⟩
     have:=hs q w z1h
     rw[hv] at this
     cases w <;> simp at this
   ·exact hk.elim
def b27 (T:Tab) (b:Nat) (ρ:Env):Prop:=GlobOk T ρ∧ρ b=some (none,0)
def c94 (T:Tab) (b:Nat) (B:Lim) (w0:World) (R:SV→List MBlk→Prop):Ending→World→Prop:=fun e W'=>∃ v ρ' m' sv,e=.returned v∧Den ρ' sv v∧MR B w0 W' ρ' m'∧R sv m'∧b27 T b ρ'
structure InlOk (P:Program) (T:Tab) (ro:Option Nat) (I:CallT→Nat→List SV→List MBlk→(SV→List MBlk→Prop)→Prop):Prop where
 fn:∀(B:Lim) (w0:World) (f b:Nat) (J:Inl) (vs:List SV) (m:List MBlk) (R:SV→List MBlk→Prop) (ρ:Env) (W:World) (xs:List Value),I (.fn f) b vs m R→g7 T.inl f=some J→MR B w0 W ρ m→b27 T b ρ→DenL ρ vs xs →
  Calls P f xs.toArray W (c94 T b B w0 R)
 yl:∀(B:Lim) (w0:World) (r b n:Nat) (vs:List SV) (m:List MBlk) (R:SV→List MBlk→Prop) (ρ:Env) (W:World) (xs:List Value) (g c:Nat),I (.yl r) b vs m R→MR B w0 W ρ m→b27 T b ρ→DenL ρ vs xs→ρ r=some (some ⟨g,0,none⟩,c) →
  ∃ fn tmps assign body,(Instr.yield g xs.toArray).run P W=.ok (.round g fn tmps assign body) W∧RoundIn (FW ro) n P g fn tmps assign body W (c94 T b B w0 R)
theorem c5d {cl:Call} {x:Operand} {r:Nat} {vs:List SV} (hG:GlobOk T ρ) (ho:o.op=.call cl) (hs:OpsOk ρ sl a ((Op.call cl).operands.toList)) (hc:sat a []) (hx:cl.callee=.value x) (hv:q7 T sl [] x=some (.yld r)) (hvs:a2l T sl [] cl.args.toList=some vs) :
  ∃(us:List Value) (g c:Nat),DenL ρ vs us∧ρ r=some (some ⟨g,0,none⟩,c)∧(execOp a.eval o).run P W=(Instr.yield g us.toArray).run P W:=by
 have hda:=a4k hG hvs (hs.sub (by intro x hx; simp only[Op.operands,Call.operands]; simp; exact .inr (by simpa using hx))) hc
 have hdx:=f7 hG hv (hs.sub (by intro y hy; simp only[z0r] at hy; subst hy; simp only[Op.operands,Call.operands,hx]; simp)) hc
 obtain⟨g,c,hρ,hw⟩:=hdx.yld_inv
 refine⟨_,g,c,hda,hρ,?_⟩
 have h3:cl.args.map a.eval=(cl.args.toList.map a.eval).toArray:=by apply Array.ext'; simp
 simp[execOp,ho,resolve,hx,Deferred.ofValue,hw,invoke,h3]
theorem b3g {s:St} {ops:List Oper} {n d:Nat} {rest:List Oper} (h:b5j T s ops=some (n,d,rest)) :
  ∃ o t x y z r ti,ops=o :: rest∧o.op=.binOp .eql t x y z∧o.guard=none∧o.dst=some d∧q7 T s.slots [] x=some (.sl r n)∧q7 T s.slots [] y=some .nilsl∧g7 T.types t=some ti∧ti.kind=3∧d < s.slots.length∧s8 (some d) s.slots=true:=by
 unfold b5j at h
 split at h
 ·rename_i o rest'
  cases hs:y4 1000002 T.sure
  ·rw[hs] at h; cases h
  rw[hs,z0f] at h
  split at h
  ·rename_i t x y z d' h1 h2 h3
   split at h
   ·rename_i r n' ti hx hy hti
    split at h
    ·rename_i sl hsl
     cases hd:(Nat.beq ti.kind 3 && s8 (some d') s.slots)
     ·rw[hd] at h; cases h
     ·simp only[hd,z0f,z0a,z0g] at h
      obtain⟨rfl,rfl,rfl⟩:=h
      simp only[z0d] at hd
      exact⟨o,t,x,y,z,r,ti,rfl,h1,h2,h3,hx,hy,hti,z0b hd.1,(z0c.1 (p9 hsl)).1,hd.2⟩
    ·cases h
   ·cases h
  ·cases h
 ·cases h
theorem d3r {s:St} {n' d:Nat} {rest:List Oper} (hT:TabOk P T) (hn:b5j T s [o]=some (n',d,rest)) (hr:Rel T B w0 ρ s.slots s.mem a W) :
  o.guard=none∧(∀ sv,a58 s.slots o.dst ⟨[],sv⟩=some (i4 s.slots d ⟨[],sv⟩))∧s8 o.dst s.slots=true∧OpTo P a o W (fun v W'=>W'=W∧((v=.bool true∧n'=0)∨v=.bool false)):=by
 obtain⟨o',t,x,y,z,r,ti,hops,ho,hgd,hdst,hx,hy,hti,hk3,hlt,hdf⟩:=b3g hn
 simp only[z3j] at hops
 obtain⟨rfl,_⟩:=hops
 have hsat:sat a []:=fun q w hq=>by cases hq
 have hdx:=f7 hr.gl hx (fun t st _ hn hsat=>by rw[t0] at hn; exact(hr.fr.ok t st hn).1 hsat) hsat
 have hdy:=f7 hr.gl hy (fun t st _ hn hsat=>by rw[t0] at hn; exact(hr.fr.ok t st hn).1 hsat) hsat
 refine⟨hgd,fun sv=>by simp only[a58,hdst,t0,z0i hlt],by rw[hdst]; exact hdf,?_⟩
 obtain⟨A,c,hρ,ex,hA⟩:=hdx.sl_inv
 have ey:a.eval y=.slice none 0 0:=by
  generalize a.eval y=w at hdy
  cases hdy
  rfl
 obtain⟨hu,_⟩:=q6 (hT.types t ti hti) hk3
 have hb:=a3h W t ti.elem A n' c hu
 refine OpTo.value (v:=.bool A.isNone) (W':=W) ?_ ⟨rfl,?_⟩
 ·have hg:(eqGuard .eql t x y (.slice A n' c) (.slice none 0 0)).run P W=.ok () W:=by simp[eqGuard]
  simp only[execOp,ho,ex,ey,z1a,hg,hb,z0o]
  rfl
 ·cases A with
  | none=>exact .inl ⟨rfl,Nat.eq_zero_of_not_pos fun h0=>hA h0 rfl⟩
  | some a=>exact .inr rfl
theorem c2l {ops:Array Oper} {Q:Exit→Act→World→Prop} {K:Act→World→Prop} {I:CallT→Nat→List SV→List MBlk→(SV→List MBlk→Prop)→Prop} {rest:List Oper} {s:St} {K0:St→Prop} (hT:TabOk P T) (hI:InlOk P T ro I) (hdf:ro≠none→∀ c,o.op≠.defer c) (hr:Rel T B w0 ρ s.slots s.mem a W)
  (h:a7d T I ops.toList (o :: rest) s K0) (hK:∀ s' ρ a W,a7d T I ops.toList rest s' K0→Rel T B w0 ρ s'.slots s'.mem a W→K a W) :
  if Region.wanted o (yielded ops a.tmps) then o.wpIn (FW ro) n P a W K Q else(∀ f,o.about P W a.eval=some f→(FW ro).fn f)∧K (a.put o.dst undef) W:=by
 simp only[a7d] at h
 split at h
 ·rename_i n' d rest' hn
  obtain⟨hgd,hput,hfr,two⟩:=d3r hT hn hr
  rw[if_pos (by simp[Region.wanted,hgd])]
  refine a6b hdf (two.wp fun v W' hv=>?_)
  obtain⟨rfl,hv⟩:=hv
  rcases hv with⟨rfl,h0⟩ | rfl
  ·exact hK _ ρ _ _ (h.1 h0) ⟨hr.fr.put (fun _ _ h=>h) (hput _) hfr (fun d _=>by simp) (.inl ⟨(fun q w hq=>by cases hq),.tt⟩),hr.mr,hr.gl,hr.df.step (x7 _ _) (fun _ h=>h) (fun _ _=>rfl)⟩
  ·exact hK _ ρ _ _ h.2 ⟨hr.fr.put (fun _ _ h=>h) (hput _) hfr (fun d _=>by simp) (.inl ⟨(fun q w hq=>by cases hq),.ff⟩),hr.mr,hr.gl,hr.df.step (x7 _ _) (fun _ h=>h) (fun _ _=>rfl)⟩
 split at h
 ·rename_i ps sl1 m1 hA
  obtain⟨h1,h2⟩:=a0m.1 h
  exact b6u hdf (b1t hT hr hA h1 fun ρ' a' W' hr'=>hK _ ρ' a' W' h2 hr')
 ·split at h
  ·rename_i ps sl1 m1 ds hB
   obtain⟨h1,h2⟩:=a0m.1 h
   exact b6u hdf (b1u hT hr hB h1 fun ρ' a' W' hr'=>hK _ ρ' a' W' h2 hr')
  ·split at h
   ·rename_i c hg
    cases hco:b2k s.slots c c
    ·rw[hco] at h; exact h.elim
    rw[hco,z0f] at h
    have hwant:=a8g (o:=o) (ops:=ops) hr.fr.len (fun _ _ _ d s _ _ _ hsd=>hr.fr.ok d s hsd) hg
    obtain⟨ok,sl,hk,hf,g1,g2⟩:=c1p c _ _ h hr.fr
    cases ok with
    | false =>
     rw[if_neg (fun hw=>g2 rfl (hwant.1 hw))]
     refine⟨fun _ _=>trivial,?_⟩
     simp only at hk
     split at hk
     ·rename_i sl' hput
      cases hdfr:s8 o.dst sl
      ·rw[hdfr] at hk; exact hk.elim
      rw[hdfr,z0f] at hk
      exact hK _ ρ _ _ hk ⟨hf.put (fun _ _ h=>h) hput hdfr (fun d _=>by simp) (.inr ⟨.inr ⟨rfl,rfl⟩,rfl⟩),hr.mr,hr.gl,hr.df.step (x7 _ _) (fun _ h=>h) (fun _ _=>rfl)⟩
     ·exact hk.elim
    | true =>
     rw[if_pos (hwant.2 (g1 rfl))]
     simp only at hk
     have hc:sat a []:=fun q w hq=>by cases hq
     have hops:OpsOk ρ sl a o.op.operands.toList:=fun t st _ hn hsat=>by rw[t0] at hn; exact(hf.ok t st hn).1 hsat
     have hn:ρ s.mem.length=none:=Classical.byContradiction fun hne=>by have:=hr.mr.dom _ hne; omega
     have hle:=Env.with_le (x:=(none,0)) hn
     have hm:=hr.mr.strong.stk hf.svs
     have hgl:b27 T s.mem.length (ρ.with s.mem.length (none,0)):=⟨hr.gl.mono hle,Env.with_same _ _ _⟩
     have fin:∀(R:SV→List MBlk→Prop),(∀ sv m',R sv m'→match nth m' s.mem.length with
       | some (.stk cs us')=>us'=a.tmps.toList∧(match a58 (a11 cs) o.dst ⟨[],sv⟩ with
        | some sl'=>a7d T I ops.toList rest ⟨sl',i4 m' s.mem.length .gone,s.dirty⟩ K0
        | none=>False)
       | _=>False)→∀(e:Ending) (W':World),c94 T s.mem.length ⟨ρ.S,ρ.R⟩ W R e W'→∃ v,e=.returned v∧K (a.put o.dst v) W':=by
      rintro R hR0 e W' ⟨v,ρ',m',sv,rfl,hdv,hmr,hR,hgl',hpin⟩
      refine⟨v,rfl,?_⟩
      replace hR:=hR0 sv m' hR
      split at hR
      ·rename_i cs us' hnth
       obtain⟨rfl,hR⟩:=hR
       split at hR
       ·rename_i sl' hput
        have hst:DenL ρ' cs a.tmps.toList:=hmr.blk s.mem.length _ (p9 hnth) (by rw[hpin]; simp)
        exact hK _ ρ' _ _ hR ⟨(FR.of_svs hst).put (fun _ _ h=>h) hput (b1a _ _) (fun d _=>by simp) (.inl ⟨(fun q w hq=>by cases hq),hdv⟩),(hr.mr.back hmr).drop,hgl',hr.df.step (x7 _ _) hmr.sub hmr.below.block⟩
       ·exact hR.elim
      ·exact hR.elim
     split at hk
     ·rename_i ct vs hin
      have hk:=hk a.tmps.toList
      unfold c29 at hin
      split at hin
      ·rename_i cl ho
       rw[ho] at hops
       split at hin
       ·rename_i f' ys vs' hcl hvs
        split at hin
        ·rename_i J hJ
         simp only[z0a,z0g] at hin
         obtain⟨rfl,rfl⟩:=hin
         obtain⟨us,hd,e⟩:=a88 (W:=W) hr.gl ho hops hc hcl hvs (hT.inl _ J hJ).2
         have hcall:=hI.fn _ _ _ _ J _ _ _ _ W us hk hJ hm hgl (hd.mono hle)
         have hop:OpTo P a o W (fun v W'=>K (a.put o.dst v) W'):=by
          unfold OpTo
          rw[e]
          exact Calls.mono hcall (fin _ (fun _ _ h=>h))
         exact a6b hdf (hop.wp fun v W' h=>h)
        ·cases hin
       ·rename_i vs' hcl hvs
        split at hin
        ·rename_i x hx
         split at hin
         ·rename_i r hv
          simp only[z0a,z0g] at hin
          obtain⟨rfl,rfl⟩:=hin
          obtain⟨us,g,c',hd,hρ,e⟩:=c5d (P:=P) (W:=W) hr.gl ho hops hc hx hv hvs
          obtain⟨fn,tmps,assign,body,hy,hrd⟩:=hI.yl _ _ _ _ (n - 1) _ _ _ _ W us g c' hk hm hgl (hd.mono hle) (hle _ _ hρ)
          refine⟨fun _ _=>trivial,?_⟩
          have es:o.semAt ro a.eval=execOp a.eval o:=Oper.semAt_eq _ _ _ (fun c=>by rw[ho]; simp)
          show o.uponIn (FW ro) n P a K Q ((o.semAt ro a.eval).run P W)
          rw[es,e,hy]
          refine⟨fun hh=>(by cases hh),hrd.mono fun e' W' he=>?_⟩
          obtain⟨v,rfl,h⟩:=fin _ (fun _ _ h=>h) e' W' he
          exact h
         ·cases hin
        ·cases hin
       ·cases hin
      ·cases hin
     ·split at hk
      ·rename_i b hb
       cases hgf:(s8 o.dst sl && a1t b.kill (a0z T))
       ·rw[hgf] at hk; exact hk.elim
       ·rw[hgf,z0f] at hk
        simp only[z0d] at hgf
        split at hk
        ·rename_i sl1 hput
         obtain⟨hp1,hk⟩:=a0m.1 hk
         have hop:=b17 (P:=P) (a:=a) hT hr.gl hr.mr.strong hops hb hp1
         refine a6b hdf (hop.wp fun v W' hv=>?_)
         obtain⟨σ,hσ,hd,hmr⟩:=hv
         rw[← a9s] at hmr
         exact hK _ σ _ _ hk ⟨(hf.kill hσ).put (fun _ _ h=>h) hput (a90 hgf.1) (fun d _=>by simp) (.inl ⟨(fun q w hq=>by cases hq),hd⟩),hr.mr.back hmr,hr.gl.kill hgf.2 hσ,hr.df.step (x7 _ _) hmr.sub hmr.below.block⟩
        ·exact hk.elim
      ·exact hk.elim
   ·exact h.elim
theorem c1m {ops:Array Oper} {Q:Exit→Act→World→Prop} {I:CallT→Nat→List SV→List MBlk→(SV→List MBlk→Prop)→Prop} {K:St→Prop} (hT:TabOk P T) (hI:InlOk P T ro I):∀(l:List Oper) (s:St) (ρ:Env) (a:Act) (W:World),(ro≠none→a5g l=true)→a7d T I ops.toList l s K→Rel T B w0 ρ s.slots s.mem a W →
  (∀ s' ρ a W,K s'→Rel T B w0 ρ s'.slots s'.mem a W→Q .normal a W)→wpListIn (FW ro) n P ops Q l a W:=by
 intro l
 induction l with
 | nil =>
  intro s ρ a W _ h hr hQ
  exact hQ _ ρ a W h ⟨hr.fr.clean,hr.mr,hr.gl,hr.df⟩
 | cons o l ih =>
  intro s ρ a W hd h hr hQ
  exact wpListIn_step fun K hK=>c2l hT hI (fun hn=>b0c (hd hn) o z1h) hr h fun s' ρ' a' W' h' hr'=>hK _ _ (ih s' ρ' a' W' (fun hn=>by have:=hd hn; simp only[a5g,z0d] at this; exact this.2) h' hr' hQ)
theorem b15 {id:Nat} {ops:Array Oper} {Q:Exit→Act→World→Prop} {s:St} {I:CallT→Nat→List SV→List MBlk→(SV→List MBlk→Prop)→Prop} {K:St→Prop} (hT:TabOk P T) (hI:InlOk P T ro I) (hd:ro≠none→a5g ops.toList=true) (h:a7d T I ops.toList ops.toList s K) (hr:Rel T B w0 ρ s.slots s.mem a W)
  (hQ:∀ s' ρ a W,K s'→Rel T B w0 ρ s'.slots s'.mem a W→Q .normal a W):(Code.region id ops false).wpIn (FW ro) n P Q a W:=
 wpIn_region_list (c1m hT hI _ _ ρ a W hd h hr hQ)
end
section
variable {P:Program} {T:Tab} {B:Lim} {w0:World} {ro:Option Nat} {n:Nat}
theorem c5a {ops:Array Oper} {Q:Exit→Act→World→Prop} {K:Act→World→Prop} {a:Act} {W:World} {i:Nat} (hd:ro≠none→a5g ops.toList=true) (h:∃ o,ops[i]?=some o∧(if Region.wanted o (yielded ops a.tmps) then o.wp P a W K Q else K (a.put o.dst undef) W)):wpOpIn (FW ro) n P ops Q i K a W:=by
 obtain⟨o,ho,h⟩:=h
 unfold wpOpIn
 simp only[ho]
 exact b6u (fun hn=>b0c (hd hn) o (by have:=Array.mem_of_getElem? ho; simpa using this)) h
theorem d04 {ops:Array Oper} {Q:Exit→Act→World→Prop} {an:List Nat} {I:CallT→Nat→List SV→List MBlk→(SV→List MBlk→Prop)→Prop} {K:St→Prop} (hT:TabOk P T) (hI:InlOk P T ro I) (hd:ro≠none→a5g ops.toList=true) (han:an=u5 ops.toList []) (hed:z8 0 ops.toList=true) {n0:Nat} (htl:a3z n0 (a12 n0 an)=true) :
  ∀(l:List Oper) (b:Nat) (s:St) (fuel:Nat) (listed:Array Bool) (ρ:Env) (a:Act) (W:World),n0≤b→b≤ops.toList.length→l=ops.toList.drop b→a7d T I ops.toList l s K →
   Rel T B w0 ρ s.slots s.mem a W→listed.size=ops.toList.length→(∀ j,j < ops.toList.length→(listed.getD j false=true↔j < b))→ops.toList.length≤fuel + b →
   (∀ s' ρ a W,K s'→Rel T B w0 ρ s'.slots s'.mem a W→Q .normal a W)→wpAnyIn (FW ro) n P .any ops Q fuel listed a W:=by
 intro l
 induction l with
 | nil =>
  intro b s fuel listed ρ a W h0 hbl hl h hr hsz hls _ hQ
  have hb:b=ops.toList.length:=by
   have:(ops.toList.drop b).length=0:=by rw[← hl]; rfl
   rw[z3u] at this
   omega
  have hnone:Region.ready .any ops listed=[]:=by
   apply z2t.2
   intro i hi
   obtain⟨h1,o,ho,_⟩:=mem_ready.1 hi
   have hil:i < ops.toList.length:=by
    have:=(z0j.1 ho).1
    simpa using this
   rw[m4 (by omega),(hls i hil).2 (by omega)] at h1
   cases h1
  have hfin:=hQ _ ρ a W h ⟨hr.fr.clean,hr.mr,hr.gl,hr.df⟩
  cases fuel with
  | zero=>exact⟨hnone,hfin⟩
  | succ f=>exact⟨fun _=>hfin,fun i hi=>by rw[hnone] at hi; cases hi⟩
 | cons o l ih =>
  intro b s fuel listed ρ a W h0 hbl hl h hr hsz hls hfu hQ
  have hb:b < ops.toList.length:=by
   have:(ops.toList.drop b).length=l.length + 1:=by rw[← hl]; rfl
   rw[z3u] at this
   omega
  have ho:ops.toList[b]?=some o:=by
   have:(ops.toList.drop b)[0]?=some o:=by rw[← hl]; rfl
   simpa using this
  have hl':l=ops.toList.drop (b + 1):=by
   have:(ops.toList.drop b).drop 1=l:=by rw[← hl]; rfl
   rw[← this,List.drop_drop]
  have hanl:an.length=ops.toList.length:=by rw[han]; have:=(x9 ops.toList []).1; simpa using this
  have hcl:∀ j aj,an[j]?=some aj→listed.getD j true=true→∀ k,Nat.testBit aj k=true→listed.getD k false=true:=fun j aj haj hlj k hk=>by
   have hjl:j < ops.toList.length:=by
    have:=(z0c.1 haj).1
    omega
   rw[m4 (by omega)] at hlj
   have h1:=(hls j hjl).1 hlj
   have h2:=b67 han hed j aj haj k hk
   exact(hls k (by omega)).2 (by omega)
  have honly:∀ i∈Region.ready .any ops listed,i=b:=fun i hi=>by
   obtain⟨h1,o',ho',_⟩:=mem_ready.1 hi
   have hil:i < ops.toList.length:=by
    have:=(z0j.1 ho').1
    simpa using this
   have hib:¬ i < b:=fun hib=>by
    rw[m4 (by omega),(hls i hil).2 hib] at h1
    cases h1
   refine Classical.byContradiction fun hne=>?_
   obtain⟨ai,hai⟩:∃ ai,an[i]?=some ai:=⟨_,z0i (by omega)⟩
   have hd:(a12 n0 an)[i - n0]?=some ai:=by
    rw[a3o,z1n,show n0 + (i - n0)=i by omega]
    exact hai
   have:=a3f han hed hcl hsz hi hai b (a68 htl hd b (by omega))
   have:=(hls b hb).1 this
   omega
  have ho2:ops[b]?=some o:=by simpa using ho
  have hnext:∀ j,j < ops.toList.length→((listed.setIfInBounds b true).getD j false=true↔j < b + 1):=fun j hj=>by
   by_cases e:j=b
   ·subst e
    have hlt:j < listed.size:=by omega
    simp[hlt]
   ·rw[getD_set_ne false (Ne.symm e),hls j hj]
    omega
  have hstep:∀ f,ops.toList.length≤f + (b + 1)→if Region.wanted o (yielded ops a.tmps) then o.wpIn (FW ro) n P a W (wpAnyIn (FW ro) n P .any ops Q f (listed.setIfInBounds b true)) Q else(∀ f,o.about P W a.eval=some f→(FW ro).fn f)∧wpAnyIn (FW ro) n P .any ops Q f (listed.setIfInBounds b true) (a.put o.dst undef) W:=fun f hf =>
   c2l (P:=P) (ops:=ops) (Q:=Q) (K:=wpAnyIn (FW ro) n P .any ops Q f (listed.setIfInBounds b true)) hT hI (fun hn=>b0c (hd hn) o (by have:=z2o ho; exact this)) hr h fun s1 ρ' a' W' h1 hr' =>
    ih (b + 1) s1 f _ ρ' a' W' (by omega) (by omega) hl' h1 hr' (by simpa using hsz) hnext hf hQ
  have step:∀(f:Nat),ops.toList.length≤f + (b + 1)→∀ i∈Region.ready .any ops listed,wpOpIn (FW ro) n P ops Q i (wpAnyIn (FW ro) n P .any ops Q f (listed.setIfInBounds i true)) a W:=fun f hf i hi=>by
   obtain rfl:=honly i hi
   have key:=hstep f hf
   unfold wpOpIn
   simp only[ho2]
   exact key
  have hne:Region.ready .any ops listed≠[]:=fun hn=>by
   have hmem:b∈Region.ready .any ops listed:=mem_ready.2 ⟨by
    have:¬ listed.getD b false=true:=fun hh=>by have:=(hls b hb).1 hh; omega
    rw[m4 (by omega)]
    exact z0z.2 this,o,ho2,fun e he hbb=>by
     have:=a0n (a0o hed ho) (e:=e) (by simpa using he) hbb
     exact(hls e.on (by omega)).2 (by omega)⟩
   rw[hn] at hmem
   cases hmem
  cases fuel with
  | zero=>omega
  | succ f=>exact⟨fun hn=>absurd hn hne,step f (by omega)⟩
theorem c4g {ops:Array Oper} {Q:Exit→Act→World→Prop} {an:List Nat} {S:Nat→List Slot} {M:Nat→List MBlk} {p:Nat→List Prop} {ls:List (List Nat)} (hT:TabOk P T) (hd:ro≠none→a5g ops.toList=true)
  (han:an=u5 ops.toList []) (hed:z8 0 ops.toList=true) (hlk:a04 ops.toList an 0 ls an=true) (hcln:a0c (S 0)=true) (hpre:Pre ops.toList S ls.length)
  (hst:∀ i,i < ls.length→∃ o,ops.toList[i]?=some o∧opA T ops.toList (S i) (M i) o=some (p i,S (i + 1),M (i + 1))∧ls[i]?=some (y8 (S i) ops.toList o)) (hle:ls.length≤ops.toList.length) (hps:∀ i,i < ls.length→∀ q∈p i,q)
  (htl:a3z ls.length (a12 ls.length an)=true) (hfin:∀(fuel:Nat) (listed:Array Bool) (ρ:Env) (a:Act) (W:World),Rel T B w0 ρ (S ls.length) (M ls.length) a W→listed.size=ops.toList.length→(∀ j,j < ops.toList.length→(listed.getD j false=true↔j < ls.length))→ops.toList.length≤fuel + ls.length→wpAnyIn (FW ro) n P .any ops Q fuel listed a W) :
  ∀(fuel:Nat) (listed:Array Bool) (a:Act) (W:World),Inv T B w0 ops.toList an S M ls.length listed a W→ops.toList.length≤fuel + listed.toList.count true→wpAnyIn (FW ro) n P .any ops Q fuel listed a W:=by
 have hanl:an.length=ops.toList.length:=by rw[han]; have:=(x9 ops.toList []).1; simpa using this
 intro fuel
 induction fuel with
 | zero =>
  intro listed a W hI hf
  exact done 0 listed a W hI (by
   have h1:listed.toList.count true≤ls.length:=cntle listed hI
   omega) (fun j hj=>Classical.byContradiction fun hne=>by
   have:=(b2o hI.size).2 ⟨j,by omega,z0z.2 hne⟩
   omega)
 | succ fuel ih =>
  intro listed a W hI hf
  by_cases hall:∀ j,j < ls.length→listed.getD j false=true
  ·exact done (fuel + 1) listed a W hI (by
    have h1:listed.toList.count true≤ls.length:=cntle listed hI
    omega) hall
  ·obtain⟨j,hj⟩:=Classical.not_forall.1 hall
   have hjn:j < ls.length:=Classical.byContradiction fun h=>hj (fun h'=>absurd h' h)
   have hjf:listed.getD j false=false:=z0z.2 fun h=>hj (fun _=>h)
   refine⟨fun hn=>?_,fun i hi=>?_⟩
   ·
    have least:∀ k,k < ls.length→listed.getD k false=true:=by
     intro k
     induction k using Nat.strongRecOn with
     | _ k ihk =>
      intro hk
      refine Classical.byContradiction fun hkf=>?_
      obtain⟨o,ho,_⟩:=hst k hk
      have:k∈Region.ready .any ops listed:=mem_ready.2 ⟨by rw[m4 (by rw[hI.size]; omega)]; exact z0z.2 hkf,o,by simpa using ho,fun e he hbb=>by
       have:=a0n (a0o hed ho) (e:=e) (by simpa using he) hbb
       exact ihk e.on (by omega) (by omega)⟩
      rw[hn] at this
      cases this
    rw[least j hjn] at hjf
    cases hjf
   ·obtain⟨h1,o',ho',_⟩:=mem_ready.1 hi
    have hil:i < ops.toList.length:=by
     have:=(z0j.1 ho').1
     simpa using this
    have hin:i < ls.length:=Classical.byContradiction fun hne=>by
     obtain⟨ai,hai⟩:∃ ai,an[i]?=some ai:=⟨_,z0i (by omega)⟩
     have hd:(a12 ls.length an)[i - ls.length]?=some ai:=by
      rw[a3o,z1n,show ls.length + (i - ls.length)=i by omega]
      exact hai
     have:=a3f han hed hI.closed hI.size hi hai j (a68 htl hd j (by omega))
     rw[this] at hjf
     cases hjf
    refine c5a hd (b5c hT han hed hlk hcln hpre hst hle hps hI hin hi fun a' W' hI'=>ih _ a' W' hI' ?_)
    rw[a8v (by rw[hI.size]; omega) (by rw[← m4 (by rw[hI.size]; omega)]; exact h1)]
    omega
where
 cntle (listed:Array Bool) {a:Act} {W:World} (hI:Inv T B w0 ops.toList an S M ls.length listed a W):listed.toList.count true≤ls.length:=by
  have e:listed.toList.count true=(listed.toList.take ls.length).count true + (listed.toList.drop ls.length).count true:=by
   rw[← List.count_append,z2w]
  have h0:(listed.toList.drop ls.length).count true=0:=by
   rw[List.count_eq_zero]
   intro hm
   obtain⟨j,hj⟩:=z3m.1 hm
   rw[z1n] at hj
   have hlt:=(z0c.1 hj).1
   have hsz:listed.toList.length=ops.toList.length:=by rw[← hI.size]; simp
   have:=hI.tail (ls.length + j) (by omega) (by omega)
   simp at hj
   simp[hj] at this
  have h1:(listed.toList.take ls.length).count true≤(listed.toList.take ls.length).length:=List.count_le_length
  rw[List.length_take] at h1
  omega
 done (fuel:Nat) (listed:Array Bool) (a:Act) (W:World) (hI:Inv T B w0 ops.toList an S M ls.length listed a W) (hf:ops.toList.length≤fuel + ls.length) (hall:∀ j,j < ls.length→listed.getD j false=true):wpAnyIn (FW ro) n P .any ops Q fuel listed a W:=by
  obtain⟨ρ,hsz,hcur,hmr,hgl,hdf,_⟩:=hI.rel
  have hiff:∀ j,j < ops.toList.length→(listed.getD j false=true↔j < ls.length):=by
   intro j hj
   constructor
   ·intro h
    refine Classical.byContradiction fun hne=>?_
    have:=hI.tail j (by omega) hj
    rw[m4 (by rw[hI.size]; exact hj),h] at this
    cases this
   ·exact hall j
  refine hfin fuel listed ρ a W ⟨⟨by rw[hpre.len _ (z0q _),hsz],fun d s hs=>hcur d s ?_⟩,hmr,hgl,hdf⟩ hI.size hiff hf
  by_cases hw:∃ j oj,j < ls.length∧ops.toList[j]?=some oj∧oj.dst=some d
  ·obtain⟨j,oj,hjn,hoj,hdj⟩:=hw
   refine .inl ⟨j,oj,hjn,hall j hjn,hoj,hdj,?_⟩
   rw[← hs]
   exact(hpre.keep (j + 1) ls.length (by omega) (z0q _) fun k ok hk hki hok hdk=>by
    have:=a2g hpre.dsts hoj hok hdj hdk
    omega).symm
  ·refine .inr ⟨fun j oj hjn _ hoj hdj=>hw ⟨j,oj,hjn,hoj,hdj⟩,?_⟩
   rw[← hs]
   exact(hpre.keep 0 ls.length (by omega) (z0q _) fun k ok _ hki hok hdk=>hw ⟨k,ok,hki,hok,hdk⟩).symm
theorem b55 {ops:Array Oper} {Q:Exit→Act→World→Prop} {s:St} {I:CallT→Nat→List SV→List MBlk→(SV→List MBlk→Prop)→Prop} {K:St→Prop} {ρ:Env} {a:Act} {W:World} (hT:TabOk P T) (hI:InlOk P T ro I) (hd:ro≠none→a5g ops.toList=true) (h:b54 T I ops.toList s K) (hr:Rel T B w0 ρ s.slots s.mem a W)
  (hQ:∀ s' ρ a W,K s'→Rel T B w0 ρ s'.slots s'.mem a W→Q .normal a W):wpAnyIn (FW ro) n P .any ops Q ops.size (Array.replicate ops.size false) a { W with drawn:=W.drawn + 1 }:=by
 unfold b54 at h
 generalize hA:b0n T ops.toList ops.toList s.slots s.mem=res at h
 obtain⟨ps1,sl1,m1,ls,r⟩:=res
 simp only at h
 cases hc:(a0c s.slots && z8 0 ops.toList && a4z ops.toList && a04 ops.toList (u5 ops.toList []) 0 ls (u5 ops.toList []) && a3z ls.length (a12 ls.length (u5 ops.toList [])))
 ·simp[hc] at h
 ·rw[hc] at h
  simp only[z0f] at h
  simp only[z0d] at hc
  obtain⟨⟨⟨⟨hcln,hed⟩,hds⟩,hlk⟩,htl⟩:=hc
  obtain⟨hp,h⟩:=a0m.1 h
  ·skip
   obtain⟨S,M,p,h1,h2,h3,h4,h5,h6,h7⟩:=a8n _ _ _ _ _ _ _ _ hA
   have hanl:(u5 ops.toList []).length=ops.toList.length:=by have:=(x9 ops.toList []).1; simpa using this
   have hst:∀ i,i < ls.length→∃ o,ops.toList[i]?=some o∧opA T ops.toList (S i) (M i) o=some (p i,S (i + 1),M (i + 1))∧ls[i]?=some (y8 (S i) ops.toList o):=fun i hi=>by
    obtain⟨o,k1,k2,k3,_⟩:=h7 i hi
    exact⟨o,k1,k2,k3⟩
   have hps:∀ i,i < ls.length→∀ q∈p i,q:=fun i hi q hq=>by
    obtain⟨o,_,_,_,k4⟩:=h7 i hi
    exact hp q (k4 q hq)
   have hpre:Pre ops.toList S ls.length:=⟨fun i hi=>by
     obtain⟨o,k1,k2,_⟩:=hst i hi
     obtain⟨s,hs⟩:=(a0l k2).2.1
     exact⟨o,s,k1,hs⟩,fun i hi o ho=>by
     obtain⟨o',k1,k2,_⟩:=hst i hi
     rw[ho] at k1
     simp only[z0a] at k1
     subst k1
     exact(a0l k2).2.2,hds⟩
   have hrep:∀ j,(Array.replicate ops.size false).getD j false=false:=fun j=>by
    simp[Array.getElem?_replicate]
    split <;> rfl
   have hrep2:∀ j,j < ops.toList.length→(Array.replicate ops.size false).getD j true=false:=fun j hj=>by
    rw[m4 (by simpa using hj)]
    exact hrep j
   have hBel:Below W.heap.size W { W with drawn:=W.drawn + 1 }:=⟨rfl,rfl,rfl,z0q _,fun _ _=>rfl⟩
   have hMn:∀ j,j < ls.length→∃ new,M (j + 1)=M j ++ new:=fun j hj=>by
    obtain⟨oj,_,hAj,_⟩:=hst j hj
    exact(a0l hAj).1
   obtain⟨tl,htl0⟩:=a84 hMn 0 ls.length (by omega) (z0q _)
   have hge:∀ j,j≤ls.length→(M 0).length≤(M j).length:=fun j hj=>by
    obtain⟨n1,e1⟩:=a84 hMn 0 j (by omega) hj
    rw[e1]; simp
   skip
   refine c4g (p:=p) (w0:=w0) hT hd rfl hed hlk (by rw[h1]; exact hcln) hpre hst h6 hps htl (fun fuel listed ρ' a' W' hr' hsz hls hfu=>d04 hT hI hd rfl hed htl _ ls.length ⟨S ls.length,M ls.length,s.dirty⟩ fuel listed ρ' a' W' (z0q _) h6 rfl (by rw[h3,h4,← h5]; exact h) hr' hsz hls hfu hQ) _ _ _ _ ⟨by simp,fun j aj haj hlj=>?_,fun j _ hjl=>hrep2 j hjl,ρ,by rw[h1]; exact hr.fr.len.symm,fun d sd hcd=>?_,?_,hr.gl,hr.df,fun i hi _ r hr1 _=>?_⟩ (by simp)
   ·have:=(z0c.1 haj).1
    rw[hrep2 j (by omega)] at hlj
    cases hlj
   ·rcases hcd with⟨j,oj,hjn,hlj,_⟩ | ⟨_,hs0⟩
    ·simp only[hrep j] at hlj
     cases hlj
    ·rw[h1] at hs0
     exact hr.fr.ok d sd hs0
   ·rw[htl0,h2]
    have:=hr.mr.grow (new:=[]) hBel (fun _ _=>rfl) (.refl _ _ _) (.nil _ _ _ _)
    rw[z1f] at this
    exact this.pre tl
   ·refine Classical.byContradiction fun hne=>?_
    have:=hr.mr.dom r hne
    rw[← h2] at this
    have:=hge i (by omega)
    omega
theorem a9j {ops:Array Oper} {id:Nat} {Q:Exit→Act→World→Prop} {s:St} {I:CallT→Nat→List SV→List MBlk→(SV→List MBlk→Prop)→Prop} {K:St→Prop} {ρ:Env} {a:Act} {W:World} (hT:TabOk P T) (hI:InlOk P T ro I) (hd:ro≠none→a5g ops.toList=true) (h:b54 T I ops.toList s K) (hr:Rel T B w0 ρ s.slots s.mem a W)
  (hQ:∀ s' ρ a W,K s'→Rel T B w0 ρ s'.slots s'.mem a W→Q .normal a W):(Code.region id ops true).wpIn (FW ro) n P Q a W:=wpIn_region_any hT.mixed (b55 hT hI hd h hr hQ)
end
section
variable {P:Program} {n:Nat}
theorem c6y {ops:Array Oper} {Q:Exit→Act→World→Prop} (hno:∀ a w,¬ Q .outgrown a w):∀(L:List Nat) (a:Act) (w:World),wpOps P ops Q L a w→wpOpsIn (FW none) n P ops Q L a w:=by
 intro L
 induction L with
 | nil=>intro a w h; exact h
 | cons k r ih =>
  intro a w h
  rw[wpOps_cons] at h
  rw[wpOpsIn_cons]
  have h:=wpOp_mono (fun a w hh=>ih a w hh) h
  unfold wpOp at h
  unfold wpOpIn
  split
  ·rename_i ho; rw[ho] at h; exact h
  ·rename_i o ho
   rw[ho] at h
   refine b6u (fun hh=>absurd rfl hh) ?_
   simp only at h
   split at h
   ·rename_i hw; rw[if_pos hw]; exact h.resolve_right fun⟨_,a,w,hq⟩=>hno a w hq
   ·rename_i hw; rw[if_neg hw]; exact h
theorem c6n {ops:Array Oper} {inv pi:List Nat} {ex:List (Nat × Nat)} {Q:Exit→Act→World→Prop} (h:Mv ops inv pi ex):∀(L:List Nat) (a:Act) (w:World),(∀ i∈L,i < ops.size)→wpOpsIn (FW none) n P (a0d ops.toList inv pi ex).toArray Q (L.map (a0h pi)) a w→wpOpsIn (FW none) n P ops Q L a w:=by
 intro L
 induction L with
 | nil=>intro a w _ h; exact h
 | cons k r ih =>
  intro a w hL hw
  rw[z2b,wpOpsIn_cons] at hw
  rw[wpOpsIn_cons]
  have hk:=hL k z1h
  have ho:ops[k]?=some ops[k]:=z2m hk
  unfold wpOpIn at hw ⊢
  rw[h.get ho] at hw
  rw[ho]
  have hg:=h.grd ho
  have w1:∀ y,Region.wanted ops[k] y=true:=fun y=>by simp[Region.wanted,hg]
  have w2:∀ y,Region.wanted (b6y pi ex k ops[k]) y=true:=fun y=>by simp[Region.wanted,b6y,hg]
  simp only[w1,w2,if_true] at hw ⊢
  have h3:ops[k].wpIn (FW none) n P a w (wpOpsIn (FW none) n P (a0d ops.toList inv pi ex).toArray Q (r.map (a0h pi))) Q:=hw
  exact Oper.wpIn_mono (fun a w hh=>ih a w (fun i hi=>hL i (z0w _ hi)) hh) h3
theorem c1x {ops:Array Oper} {Q:Exit→Act→World→Prop}:∀(fuel:Nat) (L:List Nat) (l:Array Bool) (a:Act) (w:World),wpAnyIn (FW none) n P .any ops Q fuel l a w→Vd ops l L→L.length≤fuel→wpOpsIn (FW none) n P ops Q L a w:=by
 intro fuel
 induction fuel with
 | zero =>
  intro L l a w h hv hl
  cases L with
  | nil=>exact h.2
  | cons=>simp at hl
 | succ fuel ih =>
  intro L l a w h hv hl
  cases L with
  | nil=>exact h.1 hv
  | cons k r =>
   rw[wpOpsIn_cons]
   exact wpOpIn_mono (fun a w hh=>ih r _ a w hh hv.2 (by simpa using hl)) (h.2 k hv.1)
end
end Go.Proofs.YtaeeaniofljmnaaGreatDoor.Sx

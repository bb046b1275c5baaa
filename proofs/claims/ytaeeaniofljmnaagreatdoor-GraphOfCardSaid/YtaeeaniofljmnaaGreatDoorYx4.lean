/-
  A part of the proof (Yx4).
-/
import Derived.Test.YtaeeaniofljmnaaGreatDoorYx3
import Derived.Maps.RangeRun
namespace Go.Proofs.YtaeeaniofljmnaaGreatDoor.Sx
set_option linter.unusedSimpArgs false
set_option linter.unusedVariables false
open Go Go.RowKit
section
variable {P:Program} {T:Tab} {ρ:Env} {sl:List Slot} {a:Act} {c:List (Nat × Bool)} {W:World} {m:List MBlk} {o:Oper}
theorem a00 {x:Option SV} {ar:AR} (h:a9g x=some ar):∃ v,x=some v∧ar=⟨[],v,[]⟩:=by
 cases x with
 | none=>cases h
 | some v=>exact⟨v,rfl,by simpa [a9g] using h.symm⟩
theorem OpTo.pure {sv:SV} {v:Value} {base:Nat} (h:(execOp a.eval o).run P W=.ok (.value v) W) (hd:Den ρ sv v):OpTo P a o W (StepPost ρ W base sv []):=OpTo.value h (StepPost.same hd)
theorem c42 {cb:Bool} {x y z:SV} {u v:Value} (h:c6f cb x y=some z) (hx:cb=true→Den ρ x u) (hy:cb=false→Den ρ y v):Den ρ z (if cb then u else v):=by
 have key:∀ {p q:Bool},Sx.bOf x=some p→Sx.bOf y=some q→Den ρ (.b (bif cb then p else q)) (if cb then u else v):=fun {p q} hp hq=>by
  cases cb
  ·have:=(hy rfl).bOf hq; subst this; exact .b _
  ·have:=(hx rfl).bOf hp; subst this; exact .b _
 unfold c6f at h
 split at h
 ·rename_i k p k' q
  cases hk:kEq k k'
  ·simp[hk] at h
  ·simp only[hk,z0f,z0a] at h
   subst h
   have:=u4.1 hk
   subst this
   cases cb
   ·have:=(hy rfl).i_inv; subst this; exact .i _ _
   ·have:=(hx rfl).i_inv; subst this; exact .i _ _
 ·split at h
  ·rename_i q hq
   simp only[z0a] at h
   subst h
   have:=key (p:=true) (q:=q) rfl hq
   cases cb <;> simpa using this
  ·cases h
 ·split at h
  ·rename_i p hp
   simp only[z0a] at h
   subst h
   have:=key (p:=p) (q:=false) hp rfl
   cases cb <;> simpa using this
  ·cases h
 ·split at h
  ·rename_i p q hp hq
   simp only[z0a] at h
   subst h
   exact key hp hq
  ·cases h
theorem b3x {q:Nat} {w:Bool} (hq:a.tmps.getD q undef=.bool w) (hc:sat a c):sat a ((q,w) :: c):=fun r u hr=>by
 rcases z0s.1 hr with h | h
 ·cases h; exact hq
 ·exact hc r u h
theorem d0d {q:Nat} {x y:Operand} {ar:AR} {t:Nat} (ho:o.op=.pick (.tmp q) x y) (hG:GlobOk T ρ) (hs:OpsOk ρ sl a [.tmp q,x,y]) (hc:sat a c) (h:q8 T sl m c t (.pick (.tmp q) x y)=some ar) :
  OpTo P a o W (StepPost ρ W m.length ar.sv ar.new):=by
 simp only[q8] at h
 split at h
 ·rename_i hq
  have:=(f7 hG hq (hs.sub (by simp)) hc).tt_inv
  obtain⟨v,hv,rfl⟩:=a00 h
  refine OpTo.pure (v:=a.eval x) ?_ (f7 hG hv (hs.sub (by simp)) hc)
  simp[execOp,ho,this,asBool]
 ·rename_i hq
  have:=(f7 hG hq (hs.sub (by simp)) hc).ff_inv
  obtain⟨v,hv,rfl⟩:=a00 h
  refine OpTo.pure (v:=a.eval y) ?_ (f7 hG hv (hs.sub (by simp)) hc)
  simp[execOp,ho,this,asBool]
 ·rename_i cb hq
  have hb:=(f7 hG hq (hs.sub (by simp)) hc).b_inv
  split at h
  ·rename_i vx vy hx hy
   obtain⟨v,hv,rfl⟩:=a00 h
   refine OpTo.pure (v:=if cb then a.eval x else a.eval y) ?_ (c42 hv (fun e=>?_) (fun e=>?_))
   ·simp[execOp,ho,hb,asBool]
   ·subst e; exact f7 hG hx (hs.sub (by simp)) (b3x hb hc)
   ·subst e; exact f7 hG hy (hs.sub (by simp)) (b3x hb hc)
  ·cases h
 ·cases h
theorem b91 {t:Nat} {k:Option IntKind} {u v:Value} {x y:SV} {b:Bool} (hp:a56 P t k=true) (h:a9x k x y=some b) (hx:Den ρ x u) (hy:Den ρ y v) (d:Nat) (w:World):(Op.equalIn (d + 1) t u v).run P w=.ok b w:=by
 unfold a56 at hp
 rw[z0d] at hp
 have hp:=hp.2
 cases hu:P.underlying t with
 | none=>simp[hu] at hp
 | some dsc =>
  rw[hu] at hp
  cases k with
  | none =>
   cases dsc <;> simp at hp
   simp only[a9x] at h
   split at h
   ·rename_i p q h1 h2
    simp only[z0a] at h
    subst h
    have e1:=hx.bOf h1
    have e2:=hy.bOf h2
    subst e1; subst e2
    exact run_equalIn_bool w d t p q hu
   ·cases h
  | some k =>
   cases dsc <;> simp at hp
   rename_i k0
   unfold a9x at h
   split at h
   ·rename_i kk k1 p k2 q e
    cases e
    cases hk:(kEq k k1 && kEq k k2)
    ·simp[hk] at h
    ·simp only[hk,z0f,z0a] at h
     subst h
     rw[z0d] at hk
     have h1:=u4.1 hk.1
     have h2:=u4.1 hk.2
     subst h1; subst h2
     have e1:=hx.i_inv
     have e2:=hy.i_inv
     subst e1; subst e2
     exact run_equalIn_int w d t _ _ p q hu
   ·rename_i e; cases e
   ·cases h
theorem a3d {t:Nat} {k:Option IntKind} (hp:a56 P t k=true) (xs:Array Value) (j:Nat) {v:Value} (hv:xs[j]?=some v) (w:World):(part t xs j).run P w=.ok v w:=by
 unfold a56 at hp
 rw[z0d] at hp
 have hp:=hp.2
 have:(isAgg t).run P w=.ok false w:=by
  cases hu:P.underlying t with
  | none=>simp[hu] at hp
  | some d =>
   rw[hu] at hp
   cases d <;> cases k <;> simp at hp <;> simp[isAgg,run_underlying hu]
 simp[part,this,hv]
theorem a92 {k:Option IntKind} {ks:List (Option IntKind)} {x y:SV} {xs ys:List SV} {b:Bool} (h:a1b (k :: ks) (x :: xs) (y :: ys)=some b) :
  ∃ p q,a9x k x y=some p∧a1b ks xs ys=some q∧b=(p && q):=by
 unfold a1b at h
 split at h
 ·rename_i e _ _; cases e
 ·rename_i k' x' y' e1 e2 e3
  simp only[z3j] at e1 e2 e3
  obtain⟨rfl,rfl⟩:=e1; obtain⟨rfl,rfl⟩:=e2; obtain⟨rfl,rfl⟩:=e3
  exact⟨b,true,h,by simp[a1b],by simp⟩
 ·rename_i k' ks' x' xs' y' ys' _ e1 e2 e3
  simp only[z3j] at e1 e2 e3
  obtain⟨rfl,rfl⟩:=e1; obtain⟨rfl,rfl⟩:=e2; obtain⟨rfl,rfl⟩:=e3
  split at h
  ·rename_i p q hp hq
   simp only[z0a] at h
   exact⟨p,q,hp,hq,h.symm⟩
  ·cases h
 ·cases h
theorem c3a {u v:List Value} (d:Nat) (w:World) (U V:List Value):∀(fs:List Field) (ks:List (Option IntKind)) (n:Nat) (xs ys:List SV) (b:Bool),z7 P fs ks n=true→a1b ks xs ys=some b →
  DenL ρ xs u→DenL ρ ys v→U.drop n=u→V.drop n=v→(Op.eqFields (d + 1) U.toArray V.toArray fs).run P w=.ok b w:=by
 intro fs
 induction fs generalizing u v with
 | nil =>
  intro ks n xs ys b hp he hx hy _ _
  cases ks <;> simp[z7] at hp
  cases xs <;> cases ys <;> simp[a1b] at he
  subst he
  simp[Op.eqFields]
 | cons f fs ih =>
  intro ks n xs ys b hp he hx hy hU hV
  cases ks with
  | nil=>simp[z7] at hp
  | cons k ks =>
   simp only[z7,z0d,z1p] at hp
   obtain⟨⟨⟨h1,h2⟩,h3⟩,h4⟩:=hp
   have h2:=z0b h2
   cases xs with
   | nil=>simp[a1b] at he
   | cons x xs =>
    cases ys with
    | nil=>simp[a1b] at he
    | cons y ys =>
     obtain⟨p,q,hp,hq,rfl⟩:=a92 he
     obtain⟨u0,us,rfl,hu0,hus⟩:=hx.inv
     obtain⟨v0,vs,rfl,hv0,hvs⟩:=hy.inv
     have gU:U[n]?=some u0:=by have:=congrArg (fun l:List Value=>l[0]?) hU; simpa [z1n] using this
     have gV:V[n]?=some v0:=by have:=congrArg (fun l:List Value=>l[0]?) hV; simpa [z1n] using this
     have dU:U.drop (n + 1)=us:=by have:=congrArg List.tail hU; simpa [List.tail_drop] using this
     have dV:V.drop (n + 1)=vs:=by have:=congrArg List.tail hV; simpa [List.tail_drop] using this
     simp only[Op.eqFields,h2]
     rw[if_pos h1]
     simp only[z1a,a3d h3 U.toArray n (by simpa using gU),a3d h3 V.toArray n (by simpa using gV),z0o,b91 h3 hp hu0 hv0]
     cases p
     ·simp
     ·simp[ih ks (n + 1) xs ys q h4 hq hus hvs dU dV]
theorem c5t {u v:List Value} (d:Nat) (w:World) (U V:List Value) (e:Nat):∀(ks:List (Option IntKind)) (n:Nat) (xs ys:List SV) (b:Bool),a2j P e ks=true→a1b ks xs ys=some b →
  DenL ρ xs u→DenL ρ ys v→U.drop n=u→V.drop n=v→(Op.eqItems (d + 1) e 1 U.toArray V.toArray (List.range' n ks.length)).run P w=.ok b w:=by
 intro ks
 induction ks generalizing u v with
 | nil =>
  intro n xs ys b hp he hx hy _ _
  cases xs <;> cases ys <;> simp[a1b] at he
  subst he
  simp[Op.eqItems]
 | cons k ks ih =>
  intro n xs ys b hp he hx hy hU hV
  simp only[a2j,z0d] at hp
  obtain⟨h3,h4⟩:=hp
  cases xs with
  | nil=>simp[a1b] at he
  | cons x xs =>
   cases ys with
   | nil=>simp[a1b] at he
   | cons y ys =>
    obtain⟨p,q,hp,hq,rfl⟩:=a92 he
    obtain⟨u0,us,rfl,hu0,hus⟩:=hx.inv
    obtain⟨v0,vs,rfl,hv0,hvs⟩:=hy.inv
    have gU:U[n]?=some u0:=by have:=congrArg (fun l:List Value=>l[0]?) hU; simpa [z1n] using this
    have gV:V[n]?=some v0:=by have:=congrArg (fun l:List Value=>l[0]?) hV; simpa [z1n] using this
    have dU:U.drop (n + 1)=us:=by have:=congrArg List.tail hU; simpa [List.tail_drop] using this
    have dV:V.drop (n + 1)=vs:=by have:=congrArg List.tail hV; simpa [List.tail_drop] using this
    simp only[z1g,List.range'_succ,Op.eqItems,Nat.mul_one]
    simp only[z1a,a3d h3 U.toArray n (by simpa using gU),a3d h3 V.toArray n (by simpa using gV),z0o,b91 h3 hp hu0 hv0]
    cases p
    ·simp
    ·simp[ih (n + 1) xs ys q h4 hq hus hvs dU dV]
theorem c0d {t:Nat} {ti:TI} {ks:List (Option IntKind)} {xs ys:List SV} {u v:List Value} {b:Bool} (ht:a0t P t ti=true) (hk:ti.eqk=some ks) (he:a1b ks xs ys=some b) (hx:DenL ρ xs u) (hy:DenL ρ ys v) (w:World) :
  (Op.equalIn 10000 t (.agg u.toArray) (.agg v.toArray)).run P w=.ok b w:=by
 obtain⟨_,⟨fs,hu,hs,hf⟩ | ⟨n,e,hu,hf,hn,hne⟩⟩:=a9q ht hk
 ·have hfo:P.fieldsOf t=fs:=by unfold Program.fieldsOf; rw[hu]
  rw[run_equalIn_struct w 9999 t _ _ (by rw[hfo]; exact hu) hs,hfo]
  exact c3a 9998 w u v fs.toList ks 0 xs ys b hf he hx hy rfl rfl
 ·cases ks with
  | nil=>exact absurd rfl hne
  | cons k ks =>
   have h3:=hf
   simp only[a2j,z0d] at h3
   have h3:=h3.1
   unfold a56 at h3
   rw[z0d] at h3
   have hsz:=z0e h3.1
   cases hi:P.info? e with
   | none=>simp[hi] at hsz
   | some i =>
    simp[hi] at hsz
    have hc:P.cellsOf e=1:=by simp[Program.cellsOf,hi,hsz]
    rw[run_equalIn_array w 9999 _ _ hu hi,hc,← hn,List.range_eq_range']
    exact c5t 9998 w u v e (k :: ks) 0 xs ys b hf he hx hy rfl rfl
theorem c05 {op:BinOp} {k:IntKind} {x y:Int} {ps:List Prop} {v:SV} {t:Nat} (h:c04 op k x y=some (ps,v)) (hp:∀ p∈ps,p) (w:World):∃ u,(binOp op t (.int k x) (.int k y)).run P w=.ok u w∧Den ρ v u:=by
 cases op <;> simp only[c04,z0a,z0g,reduceCtorEq] at h
 case quo =>
  obtain⟨rfl,rfl⟩:=h
  have hy:y≠0:=hp _ (by simp)
  exact⟨_,by simp[binOp_quo,Op.intDiv,hy],.i _ _⟩
 case rem =>
  obtain⟨rfl,rfl⟩:=h
  have hy:y≠0:=hp _ (by simp)
  exact⟨_,by simp[binOp_rem,Op.intDiv,hy],.i _ _⟩
 case add=>obtain⟨rfl,rfl⟩:=h; exact⟨_,by rw[binOp_add]; rfl,.i _ _⟩
 case sub=>obtain⟨rfl,rfl⟩:=h; exact⟨_,by rw[binOp_sub]; rfl,.i _ _⟩
 case mul=>obtain⟨rfl,rfl⟩:=h; exact⟨_,by rw[binOp_mul]; rfl,.i _ _⟩
 case and=>obtain⟨rfl,rfl⟩:=h; exact⟨_,by rw[binOp_and,intBits_and]; rfl,.i _ _⟩
 case or=>obtain⟨rfl,rfl⟩:=h; exact⟨_,by rw[binOp_or,intBits_or]; rfl,.i _ _⟩
 case xor=>obtain⟨rfl,rfl⟩:=h; exact⟨_,by rw[binOp_xor,intBits_xor]; rfl,.i _ _⟩
 case andNot=>obtain⟨rfl,rfl⟩:=h; exact⟨_,by rw[binOp_andNot,intBits_andNot]; rfl,.i _ _⟩
 case eql=>obtain⟨rfl,rfl⟩:=h; exact⟨_,by rw[binOp_eql]; rfl,.b _⟩
 case neq=>obtain⟨rfl,rfl⟩:=h; exact⟨_,by rw[binOp_neq]; rfl,.b _⟩
 case lss=>obtain⟨rfl,rfl⟩:=h; exact⟨_,by rw[binOp_lss]; rfl,.b _⟩
 case leq=>obtain⟨rfl,rfl⟩:=h; exact⟨_,by rw[binOp_leq]; rfl,.b _⟩
 case gtr=>obtain⟨rfl,rfl⟩:=h; exact⟨_,by rw[binOp_gtr]; rfl,.b _⟩
 case geq=>obtain⟨rfl,rfl⟩:=h; exact⟨_,by rw[binOp_geq]; rfl,.b _⟩
theorem a3h (w:World) (t e:TypeId) (A:Option Addr) (l c:Nat) (h:P.underlying t=some (.slice e)):(binOp .eql t (.slice A l c) (.slice none 0 0)).run P w=.ok (.bool A.isNone) w:=by
 have key:∀ d,(Op.equalIn (d + 1) t (.slice A l c) (.slice none 0 0)).run P w=.ok A.isNone w:=fun d=>by
  cases A <;> simp[Op.equalIn,run_underlying h]
 have:(Op.equal t (.slice A l c) (.slice none 0 0)).run P w=.ok A.isNone w:=key 9999
 simp[binOp,this]
theorem c97 {op:BinOp} {t:Nat} {x y:SV} {u v:Value} {ps:List Prop} {z:SV} (hT:TabOk P T) (h:bin T t op x y=some (ps,z)) (hx:Den ρ x u) (hy:Den ρ y v) (hp:∀ p∈ps,p) (X Y:Operand) (w:World) :
  (eqGuard op t X Y u v).run P w=.ok () w∧∃ r,(binOp op t u v).run P w=.ok r w∧Den ρ z r:=by
 unfold bin at h
 split at h
 ·rename_i k p k' q
  have e1:=hx.i_inv
  have e2:=hy.i_inv
  subst e1; subst e2
  split at h
  ·simp only[z0a,z0g] at h
   obtain⟨rfl,rfl⟩:=h
   have hb:=hp _ (z0r.2 rfl)
   exact⟨by simp[eqGuard_at_int],_,by simp[binOp,shift_shl k k' p q hb.1 hb.2],.i _ _⟩
  ·simp only[z0a,z0g] at h
   obtain⟨rfl,rfl⟩:=h
   have hb:=hp _ (z0r.2 rfl)
   exact⟨by simp[eqGuard_at_int],_,by simp[binOp,shift_shr k k' p q hb.1 hb.2],.i _ _⟩
  ·cases hk:kEq k k'
   ·simp[hk] at h
   ·simp only[hk,z0f] at h
    have:=u4.1 hk
    subst this
    obtain⟨r,h1,h2⟩:=c05 (ρ:=ρ) (P:=P) (t:=t) h hp w
    exact⟨by simp[eqGuard_at_int],r,h1,h2⟩
 ·split at h
  ·rename_i n ti hti
   cases hk:Nat.beq ti.kind 3
   ·simp[hk] at h
   ·simp only[hk,z0f,z0a,z0g] at h
    obtain⟨rfl,rfl⟩:=h
    obtain⟨hu,_⟩:=q6 (hT.types t ti hti) (z0b hk)
    obtain⟨A,k,hρ,rfl,hne⟩:=hx.sl_inv
    cases hy
    have h0:=hne (hp _ (z0r.2 rfl))
    have e0:A.isNone=false:=by cases A with | none=>exact absurd rfl h0 | some _=>rfl
    exact⟨by simp[eqGuard],_,by rw[a3h w t ti.elem A _ k hu,e0],.ff⟩
  ·cases h
 ·split at h
  ·rename_i ti hti
   cases hk:Nat.beq ti.kind 3
   ·simp[hk] at h
   ·simp only[hk,z0f,z0a,z0g] at h
    obtain⟨rfl,rfl⟩:=h
    obtain⟨hu,_⟩:=q6 (hT.types t ti hti) (z0b hk)
    cases hx
    cases hy
    exact⟨by simp[eqGuard],_,a3h w t ti.elem none 0 0 hu,.tt⟩
  ·cases h
 ·split at h
  ·rename_i p q ti h1 h2 h3
   have e1:=hx.bOf h1
   have e2:=hy.bOf h2
   subst e1; subst e2
   cases hk:Nat.beq ti.kind 5
   ·simp[hk] at h
   ·simp only[hk,z0f] at h
    have hu:=c1q (hT.types t ti h3) (z0b hk)
    cases op <;> simp only[z0a,z0g,reduceCtorEq] at h
    case eql=>obtain⟨rfl,rfl⟩:=h; exact⟨by simp[eqGuard_at_bool],_,run_eql_bool w t p q hu,.b _⟩
    case neq=>obtain⟨rfl,rfl⟩:=h; exact⟨by simp[eqGuard_at_bool],_,run_neq_bool w t p q hu,.b _⟩
  ·cases h
theorem c7l {op:BinOp} {t yt:Nat} {x y:Operand} {ar:AR} {oty:Nat} (hT:TabOk P T) (ho:o.op=.binOp op t x y yt) (hG:GlobOk T ρ) (hs:OpsOk ρ sl a [x,y]) (hc:sat a c) (h:q8 T sl m c oty (.binOp op t x y yt)=some ar) (hp:∀ p∈ar.pre,p) :
  OpTo P a o W (StepPost ρ W m.length ar.sv ar.new):=by
 simp only[q8] at h
 split at h
 ·rename_i xs ys hx hy
  obtain⟨us,eu,hu⟩:=(f7 hG hx (hs.sub (by simp)) hc).agg_inv
  obtain⟨vs,ev,hv⟩:=(f7 hG hy (hs.sub (by simp)) hc).agg_inv
  split at h
  ·rename_i ti hti
   split at h
   ·rename_i ks hks
    have ht:=hT.types t ti hti
    have hg:=(a9q ht hks).1
    split at h
    ·rename_i z hz
     simp only[z0a] at h
     subst h
     refine OpTo.pure (v:=.bool z) ?_ (.b z)
     simp[execOp,ho,eu,ev,eqGuard,hg,run_eql_struct,c0d ht hks hz hu hv]
    ·rename_i z hz
     simp only[z0a] at h
     subst h
     refine OpTo.pure (v:=.bool (!z)) ?_ (.b _)
     simp[execOp,ho,eu,ev,eqGuard,hg,run_neq_struct,c0d ht hks hz hu hv]
    ·cases h
   ·cases h
  ·cases h
 ·rename_i u v _ hx hy
  split at h
  ·rename_i ps z hb
   simp only[z0a] at h
   subst h
   obtain⟨e1,r,e2,hd⟩:=c97 hT hb (f7 hG hx (hs.sub (by simp)) hc) (f7 hG hy (hs.sub (by simp)) hc) hp x y W
   refine OpTo.pure (v:=r) ?_ hd
   simp[execOp,ho,e1,e2]
  ·cases h
 ·cases h
theorem d0e {op:UnOp} {t:Nat} {x:Operand} {ar:AR} {oty:Nat} (ho:o.op=.unOp op t x) (hG:GlobOk T ρ) (hs:OpsOk ρ sl a [x]) (hc:sat a c) (h:q8 T sl m c oty (.unOp op t x)=some ar) :
  OpTo P a o W (StepPost ρ W m.length ar.sv ar.new):=by
 simp only[q8] at h
 split at h
 ·rename_i v hv
  obtain⟨z,hz,rfl⟩:=a00 h
  have hd:=f7 hG hv hs hc
  cases v <;> simp[notB] at hz
  all_goals subst hz
  ·have:=hd.tt_inv
   exact OpTo.pure (v:=.bool false) (by simp[execOp,ho,this,Op.unary]) .ff
  ·have:=hd.ff_inv
   exact OpTo.pure (v:=.bool true) (by simp[execOp,ho,this,Op.unary]) .tt
  ·rename_i y
   have:=hd.b_inv
   exact OpTo.pure (v:=.bool (!y)) (by simp[execOp,ho,this,Op.unary]) (.b _)
 ·rename_i k n hv
  simp only[z0a] at h
  subst h
  have:=(f7 hG hv hs hc).i_inv
  exact OpTo.pure (v:=.int k (k.wrap (0 - n))) (by simp[execOp,ho,this,Op.unary,Op.intArith]) (.i _ _)
 ·cases h
theorem c1h {s d:Nat} {x:Operand} {ar:AR} {oty:Nat} (hT:TabOk P T) (ho:o.op=.convert s d x) (hG:GlobOk T ρ) (hs:OpsOk ρ sl a [x]) (hc:sat a c) (h:q8 T sl m c oty (.convert s d x)=some ar) :
  OpTo P a o W (StepPost ρ W m.length ar.sv ar.new):=by
 simp only[q8] at h
 split at h
 ·rename_i ts ti k n hts hti hv
  split at h
  ·rename_i k' hk
   cases h0:Nat.beq ti.kind 0
   ·simp[h0] at h
   ·simp only[h0,z0f,z0a] at h
    subst h
    have hu:=b49 (hT.types d ti hti) hk (z0b h0)
    have:=(f7 hG hv hs hc).i_inv
    obtain⟨y,hy⟩:=c1r (hT.types s ts hts)
    refine OpTo.pure (v:=.int k' (k'.wrap n)) ?_ (.i _ _)
    simp[execOp,ho,this,convert,run_underlying hy,run_underlying hu,Conv.intToInt]
  ·cases h
 ·cases h
theorem c1i {k:Nat} {x:Operand} {ar:AR} {oty:Nat} (ho:o.op=.extract x k) (hG:GlobOk T ρ) (hs:OpsOk ρ sl a [x]) (hc:sat a c) (h:q8 T sl m c oty (.extract x k)=some ar) :
  OpTo P a o W (StepPost ρ W m.length ar.sv ar.new):=by
 simp only[q8] at h
 split at h
 ·rename_i xs hv
  obtain⟨z,hz,rfl⟩:=a00 h
  obtain⟨vs,ev,hvs⟩:=(f7 hG hv hs hc).tup_inv
  rw[t0] at hz
  obtain⟨u,hu,hd⟩:=hvs.get hz
  refine OpTo.pure (v:=u) ?_ hd
  simp[execOp,ho,ev,Instr.extract,hu]
 ·cases h
theorem d0c {x:Operand} {ar:AR} {oty:Nat} (ho:o.op=.move x) (hG:GlobOk T ρ) (hs:OpsOk ρ sl a [x]) (hc:sat a c) (h:q8 T sl m c oty (.move x)=some ar) :
  OpTo P a o W (StepPost ρ W m.length ar.sv ar.new):=by
 simp only[q8] at h
 obtain⟨z,hz,rfl⟩:=a00 h
 exact OpTo.pure (v:=a.eval x) (by simp[execOp,ho]) (f7 hG hz hs hc)
theorem c7k {t:Nat} {ar:AR} {oty:Nat} (hT:TabOk P T) (hS:∀ g,ρ.S g→g < W.heap.size) (hf:∀ r,m.length≤r→r < m.length + ar.new.length→ρ r=none) (ho:o.op=.alloc t) (h:q8 T sl m c oty (.alloc t)=some ar) :
  OpTo P a o W (StepPost ρ W m.length ar.sv ar.new):=by
 simp only[q8] at h
 split at h
 ·rename_i ti hti
  split at h
  ·cases h
  ·rename_i hne
   simp only[z0a] at h
   subst h
   obtain⟨i,hi,_,_,hzero⟩:=s4 (hT.types t ti hti)
   obtain⟨z,hz1,hz2⟩:=hzero hne
   refine OpTo.value (v:=.pointer (some ⟨W.heap.size,0,none⟩)) (W':=W.alloc (.cells z.cells.toList.toArray t)) ?_ (StepPost.cells hS (hf _ (z0q _) (by simp)) (hz2 ρ))
   simp[execOp,ho,Instr.alloc,zeroValue,typeInfo,hi,hz1,newVar,newRow]
 ·cases h
theorem d3y {t:Nat} {x:Operand} {ar:AR} {oty:Nat} (hS:∀ g,ρ.S g→g < W.heap.size) (hf:∀ r,m.length≤r→r < m.length + ar.new.length→ρ r=none) (ho:o.op=.box t x) (hG:GlobOk T ρ) (hs:OpsOk ρ sl a [x]) (hc:sat a c) (h:q8 T sl m c oty (.box t x)=some ar) :
  OpTo P a o W (StepPost ρ W m.length ar.sv ar.new):=by
 simp only[q8] at h
 split at h
 ·rename_i v hv
  split at h
  ·rename_i cs hcs
   simp only[z0a] at h
   subst h
   obtain⟨vs,e,hd⟩:=a4m hcs (f7 hG hv hs hc)
   refine OpTo.value (v:=.pointer (some ⟨W.heap.size,0,none⟩)) (W':=W.alloc (.cells vs.toArray t)) ?_ (StepPost.cells hS (hf _ (z0q _) (by simp)) hd)
   simp[execOp,ho,Instr.box,newVar,newRow,e]
  ·cases h
 ·cases h
theorem a4b (gs:List (Nat→Nat→Int)) (ix:Nat):(a01 gs ix).length=gs.length:=by
 induction gs with
 | nil=>rfl
 | cons g r ih=>simp[a01,ih]
theorem a6u (gs:List (Nat→Nat→Int)) (ix k:Nat):(a01 gs ix)[k]?=(gs[k]?).map (fun g=>Col.int .i64 (g ix)):=by
 induction gs generalizing k with
 | nil=>simp[a01]
 | cons g r ih=>cases k <;> simp[a01,ih]
theorem b39 {ti:TI} {cs:List SV} {off:Nat} {v:SV} (h:loadAt ti cs off=some v) :
  ((Nat.beq ti.kind 1 || Nat.beq ti.kind 2)=true∧v=.agg ((cs.drop off).take ti.size)∧off + ti.size≤cs.length∨ti.size=0∧v=.agg []∧(Nat.beq ti.kind 1 || Nat.beq ti.kind 2)=true) ∨
  ((Nat.beq ti.kind 1 || Nat.beq ti.kind 2)=false∧cs[off]?=some v):=by
 unfold loadAt at h
 cases hk:(Nat.beq ti.kind 1 || Nat.beq ti.kind 2)
 ·rw[hk] at h
  simp only[z0m,t0] at h
  exact .inr ⟨rfl,h⟩
 ·rw[hk] at h
  simp only[z0f,z0h] at h
  obtain⟨r,hr,rfl⟩:=h
  obtain⟨rfl,hl⟩:=b9r hr
  rw[a3o] at hl ⊢
  refine .inl ?_
  rw[z3u] at hl
  by_cases h0:ti.size=0
  ·exact .inr ⟨h0,by simp[h0],rfl⟩
  ·exact .inl ⟨rfl,rfl,by omega⟩
theorem a8h {t:Nat} {ti:TI} {cs:List SV} {off:Nat} {v:SV} {b:Addr} (ht:a0t P t ti=true) (h:loadAt ti cs off=some v) (hcell:∀ j x,cs[j]?=some x→∃ u,W.cell? (b.add j)=some u∧Den ρ x u) :
  ∃ u,(loadVar t (b.add off)).run P W=.ok u W∧Den ρ v u:=by
 obtain⟨i,hi,hsz,_,_⟩:=s4 ht
 have hagg:=a5p ht W
 rcases b39 h with(⟨hk,rfl,hl⟩ | ⟨h0,rfl,hk⟩) | ⟨hk,hv⟩
 ·rw[hk] at hagg
  have hex:∃ us:List Value,us.length=ti.size∧∀ j,j < ti.size→∃ u,us[j]?=some u∧W.cell? ((b.add off).add j)=some u∧∀ x,cs[off + j]?=some x→Den ρ x u:=by
   refine⟨(List.range ti.size).map fun j=>(W.cell? ((b.add off).add j)).getD undef,by simp,fun j hj=>?_⟩
   have hj':off + j < cs.length:=by omega
   obtain⟨u,hu,hd⟩:=hcell (off + j) _ (z0i hj')
   rw[w6]
   refine⟨u,?_,hu,fun x hx=>by rw[z0i hj'] at hx; simp only[z0a] at hx; subst hx; exact hd⟩
   rw[z3o,List.getElem?_range hj]
   simp[w6,hu]
  obtain⟨us,hlen,hus⟩:=hex
  refine⟨.agg us.toArray,?_,.agg (by simp[hlen]; omega) fun j x u hx hu=>?_⟩
  ·have:=run_loadCells_list (P:=P) W (b.add off) us (fun j u hu=>by
    have hj:j < ti.size:=by have:=(z0c.1 hu).1; omega
    obtain⟨u',h1,h2,_⟩:=hus j hj
    rw[hu] at h1
    simp only[z0a] at h1
    subst h1
    exact h2)
   rw[hlen] at this
   simp[loadVar,hagg,sizeOf,typeInfo,hi,hsz,this]
  ·have hj:j < ti.size:=by have:=(z0c.1 hu).1; omega
   obtain⟨u',h1,_,h3⟩:=hus j hj
   rw[hu] at h1
   simp only[z0a] at h1
   subst h1
   refine h3 x ?_
   rw[z1u,if_pos hj,z1n] at hx
   exact hx
 ·rw[hk] at hagg
  refine⟨.agg #[],?_,.agg (vs:=[]) rfl (fun j x u hx=>by simp at hx)⟩
  have:=run_loadCells_list (P:=P) W (b.add off) [] (fun j u hu=>by simp at hu)
  simp only[z3a] at this
  simp[loadVar,hagg,sizeOf,typeInfo,hi,hsz,h0,this]
 ·rw[hk] at hagg
  obtain⟨u,hu,hd⟩:=hcell off v hv
  exact⟨u,by simp[loadVar,hagg,hu],hd⟩
theorem p9 {α:Type} {l:List α} {n:Nat} {x:α} (h:nth l n=some x):l[n]?=some x:=by rw[← t0]; exact h
theorem c2q {t:Nat} {x:Operand} {ar:AR} {oty:Nat} (hT:TabOk P T) (ho:o.op=.load t x) (hblk:∀ r k,m[r]?=some k→ρ r≠none→BR ρ W r k) (hG:GlobOk T ρ) (hs:OpsOk ρ sl a [x]) (hc:sat a c) (h:q8 T sl m c oty (.load t x)=some ar) (hp:∀ p∈ar.pre,p) :
  OpTo P a o W (StepPost ρ W m.length ar.sv ar.new):=by
 simp only[q8] at h
 split at h
 ·rename_i ti r off hti hv
  have ht:=hT.types t ti hti
  obtain⟨b,k,hb,e⟩:=(f7 hG hv hs hc).ptr_inv
  have fin:∀ {cs:List SV} {v:SV},loadAt ti cs off=some v→(∀ j x,cs[j]?=some x→∃ u,W.cell? (b.add j)=some u∧Den ρ x u)→OpTo P a o W (StepPost ρ W m.length v []):=fun {cs v} hl hcell=>by
   obtain⟨u,hu,hd⟩:=a8h ht hl hcell
   exact OpTo.pure (v:=u) (by simp[execOp,ho,e,Instr.loadAt,Instr.sureAddr,hu]) hd
  split at h
  ·rename_i cs hm
   obtain⟨v,hv,rfl⟩:=a00 h
   obtain⟨g,ty,vs,k',h1,_,h3,h4⟩:=hblk r _ (p9 hm) (by rw[hb]; simp)
   rw[hb] at h1
   simp only[z0a,z0g] at h1
   obtain⟨rfl,_⟩:=h1
   refine fin hv fun j x hx=>?_
   obtain⟨u,hu,hd⟩:=h4.get hx
   refine⟨u,?_,hd⟩
   have:(Addr.add ⟨g,0,none⟩ j)=⟨g,j,none⟩:=by unfold Addr.add; split <;> simp_all
   rw[this,cell_of_row W g j vs.toArray ty (0,0) h3]
   simpa using hu
  ·rename_i cs hm
   obtain⟨v,hv,rfl⟩:=a00 h
   obtain⟨a',k',h1,_,h3⟩:=hblk r _ (p9 hm) (by rw[hb]; simp)
   rw[hb] at h1
   simp only[z0a,z0g] at h1
   obtain⟨rfl,_⟩:=h1
   exact fin hv h3
  ·cases h
 ·rename_i ti r sz ix off hti hv
  have ht:=hT.types t ti hti
  obtain⟨b,k,hb,e⟩:=(f7 hG hv hs hc).pix_inv
  have fin:∀ {n:Nat} {cols:List Col},a98 ti n cols sz ix off m.length=some ar→(ix < n→∀ j col,cols[j]?=some col→∃ u,W.cell? (b.add (ix * cols.length + j))=some u∧j4 ρ.R W col ix u)→OpTo P a o W (StepPost ρ W m.length ar.sv ar.new):=fun {n cols} h hcell=>by
   unfold a98 at h
   cases hsz:Nat.beq sz cols.length
   ·simp[hsz] at h
   ·simp only[hsz,z0f] at h
    have hsz:=z0b hsz
    split at h
    ·rename_i p hrow
     simp only[z0a] at h
     subst h
     have hix:ix < n:=hp _ (by simp)
     unfold b6w at hrow
     cases hk:Nat.beq ti.kind 3
     ·rw[hk,z0m] at hrow
      cases hk2:(Nat.beq ti.kind 1 && Nat.beq ti.size 2 && Nat.beq off 0)
      ·rw[hk2] at hrow; cases hrow
      rw[hk2,z0f] at hrow
      simp only[z0d] at hk2
      obtain⟨⟨e1,e2⟩,e0⟩:=hk2
      have e1:=z0b e1
      have e2:=z0b e2
      obtain rfl:=z0b e0
      split at hrow
      ·rename_i g len gs _
       simp only[z0a] at hrow
       subst hrow
       obtain⟨u0,hu0,hd0⟩:=hcell hix 0 _ rfl
       obtain⟨u,hu,A,k0,rfl,hk0,hrow⟩:=hcell hix 1 _ rfl
       simp only[j4] at hd0
       subst hd0
       have hagg:=a5p ht W
       rw[e1] at hagg
       obtain⟨i,hi,hsz2,_,_⟩:=s4 ht
       rw[e2] at hsz2
       have hcells:=run_loadCells_list (P:=P) W (b.add (ix * sz + 0)) [.int .i64 (g ix),.slice A (len ix) k0] (fun j u hu'=>by
        match j,hu' with
        | 0,h=>simp at h; subst h; rw[w6,hsz]; simpa using hu0
        | 1,h=>simp at h; subst h; rw[w6,hsz]; simpa using hu)
       have hrun:(loadVar t (b.add (ix * sz + 0))).run P W=.ok (.agg #[.int .i64 (g ix),.slice A (len ix) k0]) W:=by
        simp only[z1g,z3a,z1d] at hcells
        simp[loadVar,hagg,sizeOf,typeInfo,hi,hsz2] at hcells ⊢
        simp[hcells]
       have hne:0 < len ix→A≠none:=fun h0 e0=>by
        obtain⟨a,ha,_⟩:=hrow h0
        rw[ha] at e0; cases e0
       have hd2:DenL (ρ.with m.length (A,k0)) [.i .i64 (g ix),.sl m.length (len ix)] [.int .i64 (g ix),.slice A (len ix) k0]:=DenL.cons (.i _ _) (DenL.cons (.sl (Env.with_same ρ _ _) hne) (DenL.nil _))
       refine OpTo.value (v:=.agg #[.int .i64 (g ix),.slice A (len ix) k0]) (by simp[execOp,ho,e,Instr.loadAt,Instr.sureAddr] at hrun ⊢; simp[hrun]) (StepPost.one (x:=(A,k0)) (Below.refl _ _) (.agg hd2.1 hd2.2) ⟨A,k0,Env.with_same ρ _ _,hk0,fun h0=>?_⟩ (fun _ _ h=>by cases h))
       obtain⟨a,ha,hs,h3⟩:=hrow h0
       refine⟨a,ha,hs.1,fun j hj k col hcol=>?_⟩
       rw[a4b] at *
       rw[a6u,z0h] at hcol
       obtain⟨g',hg,rfl⟩:=hcol
       exact⟨_,h3 j hj k g' hg,rfl⟩
      ·cases hrow
     ·simp only[hk,z0f] at hrow
      split at hrow
      ·rename_i len gs hcol
       simp only[z0a] at hrow
       subst hrow
       obtain⟨u,hu,A,k0,rfl,hk0,hrow⟩:=hcell hix off _ (p9 hcol)
       have hagg:=a5p ht W
       have e3:=z0b hk
       rw[e3] at hagg
       have hrun:(loadVar t (b.add (ix * sz + off))).run P W=.ok (.slice A (len ix) k0) W:=by
        rw[hsz]
        simp only[loadVar,z1a,hagg,z0o]
        simp[hu]
       refine OpTo.value (v:=.slice A (len ix) k0) (by simp[execOp,ho,e,Instr.loadAt,Instr.sureAddr,hrun]) (StepPost.one (x:=(A,k0)) (Below.refl _ _) (.sl (Env.with_same ρ _ _) (fun h0 e0=>?_)) ⟨A,k0,Env.with_same ρ _ _,hk0,fun h0=>?_⟩ (fun _ _ h=>by cases h))
       ·obtain⟨a,ha,_⟩:=hrow h0
        rw[ha] at e0; cases e0
       ·obtain⟨a,ha,hs,h3⟩:=hrow h0
        refine⟨a,ha,hs.1,fun j hj k col hcol=>?_⟩
        rw[a4b] at *
        rw[a6u,z0h] at hcol
        obtain⟨g,hg,rfl⟩:=hcol
        exact⟨_,h3 j hj k g hg,rfl⟩
      ·cases hrow
    ·split at h
     ·rename_i v hv
      simp only[z0a] at h
      subst h
      have hix:ix < n:=hp _ (by simp)
      obtain⟨u,hu,hd⟩:=a8h (W:=W) (ρ:=ρ) (b:=b.add (ix * sz)) ht hv (fun j x hx=>by
       rw[b2x,z0h] at hx
       obtain⟨col,hc,rfl⟩:=hx
       obtain⟨u,h1,h2⟩:=hcell hix j col hc
       exact⟨u,by rw[w6,hsz]; exact h1,b2p ρ h2⟩)
      rw[w6] at hu
      exact OpTo.pure (v:=u) (by simp[execOp,ho,e,Instr.loadAt,Instr.sureAddr,hu]) hd
     ·cases h
  split at h
  ·rename_i n cols hm
   refine fin h fun hix j col hc=>?_
   obtain⟨A,k',h1,_,h2⟩:=hblk r _ (p9 hm) (by rw[hb]; simp)
   rw[hb] at h1
   simp only[z0a,z0g] at h1
   obtain⟨rfl,_⟩:=h1
   obtain⟨b',e',_,h3⟩:=h2 (by omega)
   simp only[z0a] at e'
   subst e'
   exact h3 ix hix j col hc
  ·rename_i e' n cols hm
   refine fin h fun hix j col hc=>?_
   obtain⟨A,k',vs,h1,h2,_,_,h3⟩:=hblk r _ (p9 hm) (by rw[hb]; simp)
   rw[hb] at h1
   simp only[z0a,z0g] at h1
   obtain⟨rfl,_⟩:=h1
   obtain⟨u,hu,hd⟩:=h3 ix hix j col hc
   refine⟨u,?_,hd⟩
   obtain⟨_,h4⟩:=h2
   rcases h4 with⟨h4,_⟩ | ⟨g,cap,cur,h4,_,hh,hnc,_,hcs,htk⟩
   ·cases h4
   ·injection h4 with h4
    injection h4 with h4
    subst h4
    have:(Addr.add ⟨g,0,none⟩ (ix * cols.length + j))=⟨g,ix * cols.length + j,none⟩:=by unfold Addr.add; split <;> simp_all
    rw[this,cell_of_row W g _ cur _ (0,0) hh]
    rw[← htk,z1u] at hu
    split at hu
    ·simpa using hu
    ·cases hu
  ·rename_i e0 e' n hh q len gs hm
   cases hk:(Nat.beq ti.kind 3 && Nat.beq sz 1 && Nat.beq off 0 && Nat.beq ti.elem e')
   ·rw[hk] at h; cases h
   ·simp only[hk,z0f,z0a] at h
    subst h
    simp only[z0d] at hk
    obtain⟨⟨⟨k1,k2⟩,k3⟩,k4⟩:=hk
    obtain rfl:=z0b k2
    obtain rfl:=z0b k3
    have p1:ix < n:=hp _ (by simp)
    have p2:ix=hh:=hp _ (by simp)
    subst p2
    obtain⟨A,k',vs,h1,h2,_,_,_,_,h7⟩:=hblk r _ (p9 hm) (by rw[hb]; simp)
    rw[hb] at h1
    simp only[z0a,z0g] at h1
    obtain⟨rfl,_⟩:=h1
    obtain⟨B,d,q1,q2,q3⟩:=h7 ix q rfl rfl
    have hpg:b=⟨b.block,0,none⟩:=by
     rcases h2.2 with⟨h,_⟩ | ⟨g,cap,cur,h,_⟩
     ·cases h
     ·simp only[z0y,z0a] at h
      rw[h.1]
    have hcell:W.cell? (b.add (ix * 1 + 0))=some (.slice B (len ix) d):=by
     rw[hpg]
     exact h2.cells (g:=b.block) (by rw[hpg]; rfl) _ _ (by simpa using q2)
    have hu:=(q6 ht (z0b k1)).1
    have hag:∀ w,(isAgg t).run P w=.ok false w:=fun w=>by simp[isAgg,run_underlying hu]
    have hld:(loadVar t (b.add (ix * 1 + 0))).run P W=.ok (.slice B (len ix) d) W:=by
     simp only[loadVar,z1a,hag,z0o,z2s,if_false]
     rw[run_load,hcell]
    refine OpTo.pure (v:=.slice B (len ix) d) ?_ (.sl q1 q3)
    simp only[execOp,ho,e,Instr.loadAt,Instr.sureAddr,z1a,z3g,z0o,hld]
  ·cases h
 ·cases h
theorem b3c {fs:List Field} {l:List (Nat × Nat)} (h:fs.mapM (fun f=>(P.info? f.type).map fun i=>(f.offset,i.size))=some l):l.length=fs.length∧∀(k:Nat) (q:Nat × Nat),l[k]?=some q→∃(f:Field) (i:TypeInfo),fs[k]?=some f∧P.info? f.type=some i∧q=(f.offset,i.size):=by
 induction fs generalizing l with
 | nil=>simp at h; subst h; simp
 | cons f fs ih =>
  simp only[List.mapM_cons,z3r,z3e] at h
  cases hi:P.info? f.type with
  | none=>simp[hi] at h
  | some i =>
   cases hr:fs.mapM (fun f=>(P.info? f.type).map fun i=>(f.offset,i.size)) with
   | none=>simp[hi,hr] at h
   | some rest =>
    simp[hi,hr] at h
    subst h
    obtain⟨h1,h2⟩:=ih hr
    refine⟨by simp[h1],fun k q hq=>?_⟩
    cases k with
    | zero=>simp at hq; subst hq; exact⟨f,i,rfl,hi,rfl⟩
    | succ k=>exact h2 k q (by simpa using hq)
theorem b7f {t k:Nat} {x:Operand} {ar:AR} {oty:Nat} (hT:TabOk P T) (ho:o.op=.fieldAddr t x k) (hG:GlobOk T ρ) (hs:OpsOk ρ sl a [x]) (hc:sat a c) (h:q8 T sl m c oty (.fieldAddr t x k)=some ar) :
  OpTo P a o W (StepPost ρ W m.length ar.sv ar.new):=by
 simp only[q8] at h
 split at h
 ·rename_i ti hti
  cases hk1:Nat.beq ti.kind 1
  ·simp[hk1] at h
  ·simp only[hk1,z0f] at h
   obtain⟨fs,hu,hm⟩:=a36 (hT.types t ti hti) (z0b hk1)
   have key:∀ {q:Nat × Nat} {b:Addr},nth ti.offs k=some q→Nat.beq q.2 0=false→a.eval x=.pointer (some b)→(execOp a.eval o).run P W=.ok (.value (.pointer (some (b.add q.1)))) W:=fun {q b} hq h0 e=>by
    obtain⟨f,i,hf,hi,rfl⟩:=(b3c hm).2 k q (p9 hq)
    have hf':fs[k]?=some f:=by simpa using hf
    have h0':¬ i.size=0:=by intro e0; simp[e0] at h0
    simp[execOp,ho,e,Instr.fieldAt,run_underlying hu,hf',Instr.sureAddr,fieldPlace,sizeOf,typeInfo,hi,h0']
   split at h
   ·rename_i q r off hq hv
    cases h0:Nat.beq q.2 0
    ·simp only[h0,z0m,z0a] at h
     subst h
     obtain⟨b,k',hb,e⟩:=(f7 hG hv hs hc).ptr_inv
     refine OpTo.pure (key hq h0 e) ?_
     rw[w6]
     exact .ptr hb
    ·simp[h0] at h
   ·rename_i q r sz ix off hq hv
    cases h0:Nat.beq q.2 0
    ·simp only[h0,z0m,z0a] at h
     subst h
     obtain⟨b,k',hb,e⟩:=(f7 hG hv hs hc).pix_inv
     refine OpTo.pure (key hq h0 e) ?_
     rw[w6,z2v]
     exact .pix hb
    ·simp[h0] at h
   ·cases h
 ·cases h
theorem fldA {t k:Nat} {x:Operand} {ar:AR} {oty:Nat} (hT:TabOk P T) (ho:o.op=.fieldAddr t x k) (hG:GlobOk T ρ) (hs:OpsOk ρ sl a [x]) (hc:sat a c) (h:q8 T sl m c oty (.fieldAddr t x k)=some ar) :
  ∃ v,(∀ W,(execOp a.eval o).run P W=.ok (.value v) W)∧Den ρ ar.sv v∧ar.new=[]:=by
 simp only[q8] at h
 split at h
 ·rename_i ti hti
  cases hk1:Nat.beq ti.kind 1
  ·simp[hk1] at h
  ·simp only[hk1,z0f] at h
   obtain⟨fs,hu,hm⟩:=a36 (hT.types t ti hti) (z0b hk1)
   have key:∀ {q:Nat × Nat} {b:Addr},nth ti.offs k=some q→Nat.beq q.2 0=false→a.eval x=.pointer (some b)→∀ W,(execOp a.eval o).run P W=.ok (.value (.pointer (some (b.add q.1)))) W:=fun {q b} hq h0 e W=>by
    obtain⟨f,i,hf,hi,rfl⟩:=(b3c hm).2 k q (p9 hq)
    have hf':fs[k]?=some f:=by simpa using hf
    have h0':¬ i.size=0:=by intro e0; simp[e0] at h0
    simp[execOp,ho,e,Instr.fieldAt,run_underlying hu,hf',Instr.sureAddr,fieldPlace,sizeOf,typeInfo,hi,h0']
   split at h
   ·rename_i q r off hq hv
    cases h0:Nat.beq q.2 0
    ·simp only[h0,z0m,z0a] at h
     subst h
     obtain⟨b,k',hb,e⟩:=(f7 hG hv hs hc).ptr_inv
     refine⟨_,key hq h0 e,?_,rfl⟩
     rw[w6]
     exact .ptr hb
    ·simp[h0] at h
   ·rename_i q r sz ix off hq hv
    cases h0:Nat.beq q.2 0
    ·simp only[h0,z0m,z0a] at h
     subst h
     obtain⟨b,k',hb,e⟩:=(f7 hG hv hs hc).pix_inv
     refine⟨_,key hq h0 e,?_,rfl⟩
     rw[w6,z2v]
     exact .pix hb
    ·simp[h0] at h
   ·cases h
 ·cases h
theorem idxA {t:Nat} {x y:Operand} {ar:AR} {oty:Nat} (hT:TabOk P T) (ho:o.op=.indexAddr t x y) (hG:GlobOk T ρ) (hs:OpsOk ρ sl a [x,y]) (hc:sat a c) (h:q8 T sl m c oty (.indexAddr t x y)=some ar) (hp:∀ p∈ar.pre,p) :
  ∃ v,(∀ W,(execOp a.eval o).run P W=.ok (.value v) W)∧Den ρ ar.sv v∧ar.new=[]:=by
 simp only[q8] at h
 split at h
 ·rename_i ti v k n hti hx hy
  have hdx:=f7 hG hx (hs.sub (by simp)) hc
  have ey:=(f7 hG hy (hs.sub (by simp)) hc).i_inv
  split at h
  ·rename_i te hte
   obtain⟨i,hi,hsz,_,_⟩:=s4 (hT.types _ te hte)
   split at h
   ·rename_i r off
    split at h
    ·rename_i kx hcx
     have ey2:n=(kx:Int):=by
      unfold c5o at hcx
      split at hcx
      ·simp only[z0a] at hcx
       subst hcx
       have:Value.int _ _=Value.int _ _:=ey
       simp only[Value.int.injEq] at this
       exact this.2.symm
      ·simp only[z0a] at hcx
       subst hcx
       have:Value.int _ _=Value.int _ _:=ey
       simp only[Value.int.injEq] at this
       exact this.2.symm
      ·cases hcx
     cases hk:(Nat.beq ti.kind 2 && Nat.blt kx ti.len && Nat.beq te.size 1)
     ·simp[hk] at h
     ·simp only[hk,z0f,z0a] at h
      subst h
      simp only[z0d,z0u] at hk
      have hs1:=z0b hk.2
      have hu:=a3u (hT.types t ti hti) (z0b hk.1.1)
      obtain⟨b,k',hb,ex⟩:=hdx.ptr_inv
      have h1:(0:Int)≤kx:=by omega
      have h2:(kx:Int) < ti.len:=by omega
      subst ey2
      refine⟨.pointer (some ((b.add off).add kx)),fun W=>?_,by rw[w6]; exact .ptr hb,rfl⟩
      have hlt:kx < ti.len:=hk.1.2
      simp[execOp,ho,ex,ey,Instr.indexAt,run_underlying hu,Instr.sureAddr,asIntOf,hlt,sizeOf,typeInfo,hi,hsz,hs1]
    ·cases hk:(Nat.beq ti.kind 2 && Nat.beq off 0)
     ·simp[hk] at h
     ·simp only[hk,z0f,z0a] at h
      subst h
      rw[z0d] at hk
      have h0:=z0b hk.2
      subst h0
      have hu:=a3u (hT.types t ti hti) (z0b hk.1)
      obtain⟨h1,h2⟩:0≤n∧n < ti.len:=hp _ (by simp)
      obtain⟨b,k',hb,ex⟩:=hdx.ptr_inv
      have e0:b.add 0=b:=by simp[Addr.add]
      rw[e0] at ex
      refine⟨.pointer (some (b.add (n.toNat * te.size))),fun W=>?_,by have:=Den.pix (sz:=te.size) (ix:=n.toNat) (off:=0) hb; simpa using this,rfl⟩
      simp[execOp,ho,ex,ey,Instr.indexAt,run_underlying hu,Instr.sureAddr,asIntOf,h1,h2,sizeOf,typeInfo,hi,hsz]
   ·rename_i r len
    cases hk:Nat.beq ti.kind 3
    ·simp[hk] at h
    ·simp only[hk,z0f,z0a] at h
     subst h
     have hu:=(q6 (hT.types t ti hti) (z0b hk)).1
     obtain⟨h1,h2⟩:0≤n∧n < len:=hp _ (by simp)
     obtain⟨A,k',hb,ex,hne⟩:=hdx.sl_inv
     cases A with
     | none=>exact absurd rfl (hne (by omega))
     | some b =>
      refine⟨.pointer (some (b.add (n.toNat * te.size))),fun W=>?_,by have:=Den.pix (sz:=te.size) (ix:=n.toNat) (off:=0) hb; simpa using this,rfl⟩
      simp[execOp,ho,ex,ey,Instr.indexAt,run_underlying hu,asIntOf,h1,h2,sizeOf,typeInfo,hi,hsz]
   ·rename_i r sz lo len
    cases hk:(Nat.beq ti.kind 3 && Nat.beq sz te.size)
    ·simp[hk] at h
    ·simp only[hk,z0f,z0a] at h
     subst h
     rw[z0d] at hk
     have h0:=z0b hk.2
     subst h0
     have hu:=(q6 (hT.types t ti hti) (z0b hk.1)).1
     obtain⟨h1,h2⟩:0≤n∧n < len:=hp _ (by simp)
     obtain⟨A,k',A',c',hb,ex,hne⟩:=hdx.sub_inv
     obtain⟨hA,rfl⟩:=hne (by omega)
     cases A with
     | none=>exact absurd rfl hA
     | some b =>
      refine⟨.pointer (some ((b.add (lo * te.size)).add (n.toNat * te.size))),fun W=>?_,by rw[w6,← Nat.add_mul]; have:=Den.pix (sz:=te.size) (ix:=lo + n.toNat) (off:=0) hb; simpa using this,rfl⟩
      simp[execOp,ho,ex,ey,Instr.indexAt,run_underlying hu,asIntOf,h1,h2,sizeOf,typeInfo,hi,hsz]
   ·rename_i r sz ix off
    split at h
    ·rename_i kx
     cases hk:(Nat.beq ti.kind 2 && Nat.blt kx ti.len && Nat.beq te.size 1)
     ·simp[hk] at h
     ·simp only[hk,z0f,z0a] at h
      subst h
      simp only[z0d,z0u] at hk
      have hs1:=z0b hk.2
      have hu:=a3u (hT.types t ti hti) (z0b hk.1.1)
      obtain⟨b,k',hb,ex⟩:=hdx.pix_inv
      have ey2:n=(kx:Int):=by
       have:Value.int _ _=Value.int _ _:=ey
       simp only[Value.int.injEq] at this
       exact this.2.symm
      subst ey2
      have hlt:kx < ti.len:=hk.1.2
      clear hy
      have ey2:=ey
      generalize hyy:(Operand.const (Value.int _ (Int.ofNat kx)))=yo at ho
      have ey':a.eval yo=.int k (kx:Int):=by rw[← hyy]; assumption
      refine⟨.pointer (some ((b.add (ix * sz + off)).add kx)),fun W=>?_,by rw[w6,z2v]; exact .pix hb,rfl⟩
      simp[execOp,ho,ex,ey',Instr.indexAt,run_underlying hu,Instr.sureAddr,asIntOf,hlt,sizeOf,typeInfo,hi,hsz,hs1]
    ·cases h
   ·cases h
  ·cases h
 ·cases h
theorem b7g {t:Nat} {x y:Operand} {ar:AR} {oty:Nat} (hT:TabOk P T) (ho:o.op=.indexAddr t x y) (hG:GlobOk T ρ) (hs:OpsOk ρ sl a [x,y]) (hc:sat a c) (h:q8 T sl m c oty (.indexAddr t x y)=some ar) (hp:∀ p∈ar.pre,p) :
  OpTo P a o W (StepPost ρ W m.length ar.sv ar.new):=by
 obtain⟨v,h1,h2,h3⟩:=idxA (P:=P) hT ho hG hs hc h hp
 rw[h3]
 exact OpTo.pure (h1 W) h2
theorem c3e (l:List Value):∀(off k:Nat) (vs:Array Value),off + k + l.length≤vs.size →
  ((l.zipIdx k).foldl (fun cs (c,j)=>cs.setIfInBounds (off + j) c) vs).size=vs.size∧∀ j,((l.zipIdx k).foldl (fun cs (c,j)=>cs.setIfInBounds (off + j) c) vs)[j]?=if off + k≤j∧j < off + k + l.length then l[j - (off + k)]? else vs[j]?:=by
 induction l with
 | nil=>intro off k vs _; simp; omega
 | cons v l ih =>
  intro off k vs h
  simp only[List.zipIdx_cons,List.foldl_cons]
  simp only[z1g] at h
  obtain⟨h1,h2⟩:=ih off (k + 1) (vs.setIfInBounds (off + k) v) (by simp; omega)
  refine⟨by rw[h1]; simp,fun j=>?_⟩
  rw[h2 j]
  simp only[z1g]
  by_cases c1:off + (k + 1)≤j∧j < off + (k + 1) + l.length
  ·rw[if_pos c1,if_pos (by omega)]
   have:j - (off + k)=(j - (off + (k + 1))) + 1:=by omega
   rw[this,z1t]
  ·rw[if_neg c1]
   by_cases c2:j=off + k
   ·subst c2
    rw[if_pos (by omega),Array.getElem?_setIfInBounds_self_of_lt (by omega)]
    simp
   ·rw[if_neg (by omega),Array.getElem?_setIfInBounds_ne (by omega)]
theorem b2v {offs:Nat→Option (Nat × Nat)} {place:Nat→Option (Nat × Nat)} (hpl:∀ k q,offs k=some q→place k=some q):∀(ps:List (Nat × SV)) (parts:List (Nat × Value)) (cs cs':List SV) (vs:List Value),a0i offs cs ps=some cs'→DenL ρ cs vs →
  ps.map (·.1)=parts.map (·.1)→DenL ρ (ps.map (·.2)) (parts.map (·.2))→∃ vs',Instr.fill place vs.toArray parts=some vs'.toArray∧DenL ρ cs' vs':=by
 intro ps
 induction ps with
 | nil =>
  intro parts cs cs' vs h hd hk hv
  cases parts with
  | nil=>simp only[a0i,z0a] at h; subst h; exact⟨vs,rfl,hd⟩
  | cons p r=>simp at hk
 | cons p ps ih =>
  intro parts cs cs' vs h hd hk hv
  cases parts with
  | nil=>simp at hk
  | cons q parts =>
   obtain⟨k,x⟩:=p
   obtain⟨k',u⟩:=q
   simp only[z2b,z3j] at hk
   obtain⟨rfl,hk⟩:=hk
   simp only[z2b] at hv
   obtain⟨u',us',e,hu,hus⟩:=hv.inv
   simp only[z3j] at e
   obtain⟨rfl,rfl⟩:=e
   simp only[a0i] at h
   split at h
   ·rename_i o xs ho hxs
    cases hl:Nat.beq xs.length o.2
    ·simp[hl] at h
    ·simp only[hl,z0f] at h
     have hl:=z0b hl
     split at h
     ·rename_i cs1 hw
      obtain⟨w1,w2,w3⟩:=a8q hw
      obtain⟨zs,hz,hzd⟩:=a4m hxs hu
      have hzl:zs.length=o.2:=by rw[hzd.1]; exact hl
      have hcl:vs.length=cs.length:=hd.1
      obtain⟨f1,f2⟩:=c3e zs o.1 0 vs.toArray (by simp; omega)
      simp only[z1i] at f2
      generalize hA:(zs.zipIdx 0).foldl (fun cs (c,j)=>cs.setIfInBounds (o.1 + j) c) vs.toArray=A at f1 f2
      have hd1:DenL ρ cs1 A.toList:=by
       refine⟨by rw[w1]; simp[f1,hcl],fun j y v hy hv=>?_⟩
       have hv':A[j]?=some v:=by simpa using hv
       rw[f2 j] at hv'
       rw[w3 j] at hy
       by_cases hj:o.1≤j∧j < o.1 + zs.length
       ·rw[if_pos hj] at hv'
        rw[if_pos (by omega)] at hy
        exact hzd.2 _ y v hy hv'
       ·rw[if_neg hj] at hv'
        rw[if_neg (by omega)] at hy
        exact hd.2 j y v hy (by simpa using hv')
      obtain⟨vs',hf,hd'⟩:=ih parts cs1 cs' A.toList h hd1 hk hus
      refine⟨vs',?_,hd'⟩
      rw[Instr.fill,hpl k o ho]
      simp only[hz,List.size_toArray,hzl,ne_eq,not_true_eq_false,decide_false,Bool.false_or,z1p]
      rw[if_neg (by omega)]
      rw[← hf]
      congr 1
      rw[← hA]
      simp
     ·cases h
   ·cases h
theorem c7m {t:Nat} {ps:Array (Nat × Operand)} {ar:AR} {oty:Nat} (hT:TabOk P T) (ho:o.op=.build t ps) (hG:GlobOk T ρ) (hs:OpsOk ρ sl a (ps.toList.map (·.2))) (hc:sat a c) (h:q8 T sl m c oty (.build t ps)=some ar) :
  OpTo P a o W (StepPost ρ W m.length ar.sv ar.new):=by
 simp only[q8] at h
 split at h
 ·rename_i ti vs hti hvs
  cases hk:(Nat.beq ti.kind 1 && !ti.zero.isEmpty)
  ·rw[hk,z0m] at h
   cases hk2:(Nat.beq ti.kind 2 && !ti.zero.isEmpty)
   ·rw[hk2] at h; cases h
   ·simp only[hk2,z0f] at h
    rw[z0d] at hk2
    split at h
    ·rename_i te hte
     obtain⟨z,hz,rfl⟩:=a00 h
     simp only[z0h] at hz
     obtain⟨cs,hcs,rfl⟩:=hz
     obtain⟨i,hi,_,_,hzero⟩:=s4 (hT.types t ti hti)
     obtain⟨z,hz1,hz2⟩:=hzero (by intro e; simp[e] at hk2)
     have hu:=a3u (hT.types t ti hti) (z0b hk2.1)
     obtain⟨ie,hie,hsz,_,_⟩:=s4 (hT.types _ te hte)
     obtain⟨h1,h2⟩:=a0v hG hvs hs hc
     obtain⟨us,hf,hd⟩:=b2v (place:=fun k=>some (k * te.size,te.size)) (fun k q hq=>by
      cases hb:Nat.blt k ti.len <;> simp[hb] at hq
      rw[hq]) vs (ps.toList.map fun p=>(p.1,a.eval p.2)) ti.zero cs z.cells.toList hcs (hz2 ρ) (by rw[h1]; simp) (by simpa [List.map_map,Function.comp_def] using h2)
     refine OpTo.pure (v:=.agg us.toArray) ?_ (.agg hd.1 hd.2)
     have hf':Instr.fill (fun i=>some (i * te.size,te.size)) z.cells (ps.map fun(i,x)=>(i,a.eval x)).toList=some us.toArray:=by
      rw[← hf]
      simp[z3h]
     have hb:P.built t (ps.map fun(i,x)=>(i,a.eval x)).toList=some us.toArray:=by
      unfold Program.built
      simp only[hi,hu,hz1,hie,hsz]
      exact hf'
     simp[execOp,ho,run_build W t _ _ hb]
    ·cases h
  ·simp only[hk,z0f] at h
   rw[z0d] at hk
   obtain⟨z,hz,rfl⟩:=a00 h
   simp only[z0h] at hz
   obtain⟨cs,hcs,rfl⟩:=hz
   obtain⟨i,hi,_,_,hzero⟩:=s4 (hT.types t ti hti)
   obtain⟨z,hz1,hz2⟩:=hzero (by intro e; simp[e] at hk)
   obtain⟨fs,hu,hm⟩:=a36 (hT.types t ti hti) (z0b hk.1)
   obtain⟨h1,h2⟩:=a0v hG hvs hs hc
   obtain⟨us,hf,hd⟩:=b2v (place:=fun k=>ti.offs.toArray[k]?) (fun k q hq=>by simpa [t0] using hq) vs (ps.toList.map fun p=>(p.1,a.eval p.2)) ti.zero cs z.cells.toList hcs (hz2 ρ) (by rw[h1]; simp) (by simpa [List.map_map,Function.comp_def] using h2)
   refine OpTo.pure (v:=.agg us.toArray) ?_ (.agg hd.1 hd.2)
   have hb:P.built t (ps.map fun(i,x)=>(i,a.eval x)).toList=some us.toArray:=by
    unfold Program.built
    simp only[hi,hu,hz1,hm]
    rw[← hf]
    simp[z3h]
   simp[execOp,ho,run_build W t _ _ hb]
 ·cases h
theorem c4i:∀(l:List Int) (j:Nat) (n:Int),l[j]?=some n→e8 l j=n:=by
 intro l
 induction l with
 | nil=>intro j n h; simp at h
 | cons x r ih =>
  intro j n h
  cases r with
  | nil =>
   have:j=0:=by have:=(z0c.1 h).1; simpa using this
   subst this
   simpa [e8] using h
  | cons y r =>
   cases j with
   | zero=>simpa [e8] using h
   | succ j =>
    simp only[e8,Nat.add_sub_cancel]
    have:(Nat.beq (j + 1) 0)=false:=rfl
    rw[this,z0m]
    exact ih j n (by simpa using h)
theorem c4h:∀(l:List Bool) (j:Nat) (n:Bool),l[j]?=some n→o7 l j=n:=by
 intro l
 induction l with
 | nil=>intro j n h; simp at h
 | cons x r ih =>
  intro j n h
  cases r with
  | nil =>
   have:j=0:=by have:=(z0c.1 h).1; simpa using this
   subst this
   simpa [o7] using h
  | cons y r =>
   cases j with
   | zero=>simpa [o7] using h
   | succ j =>
    simp only[o7,Nat.add_sub_cancel]
    have:(Nat.beq (j + 1) 0)=false:=rfl
    rw[this,z0m]
    exact ih j n (by simpa using h)
theorem c5h {k:IntKind}:∀ {l:List SV} {r:List Int},allI k l=some r→r.length=l.length∧∀(j:Nat) (x:SV),l[j]?=some x→∃ n,r[j]?=some n∧x=.i k n:=by
 intro l
 induction l with
 | nil=>intro r h; simp only[allI,z0a] at h; subst h; simp
 | cons x l ih =>
  intro r h
  cases x <;> simp only[allI,reduceCtorEq] at h
  rename_i k' n
  cases hk:kEq k k'
  ·simp[hk] at h
  ·simp only[hk,z0f,z0h] at h
   obtain⟨q,hq,rfl⟩:=h
   have:=u4.1 hk
   subst this
   obtain⟨h1,h2⟩:=ih hq
   refine⟨by simp[h1],fun j x hx=>?_⟩
   cases j with
   | zero=>simp at hx; subst hx; exact⟨n,rfl,rfl⟩
   | succ j=>simpa using h2 j x (by simpa using hx)
theorem c5g:∀ {l:List SV} {r:List Bool},c5f l=some r→r.length=l.length∧∀(j:Nat) (x:SV),l[j]?=some x→∃ n,r[j]?=some n∧Sx.bOf x=some n:=by
 intro l
 induction l with
 | nil=>intro r h; simp only[c5f,z0a] at h; subst h; simp
 | cons x l ih =>
  intro r h
  simp only[c5f] at h
  split at h
  ·rename_i b q hb hq
   simp only[z0a] at h
   subst h
   obtain⟨h1,h2⟩:=ih hq
   refine⟨by simp[h1],fun j x hx=>?_⟩
   cases j with
   | zero=>simp at hx; subst hx; exact⟨b,rfl,hb⟩
   | succ j=>simpa using h2 j x (by simpa using hx)
  ·cases h
theorem c37 {S:Nat→Prop} {l:List SV} {j:Nat} {x:SV} {v:Value} (h:l[j]?=some x) (hd:Den ρ x v):j4 S W (c22 l) j v:=by
 unfold c22
 split
 ·trivial
 ·rename_i k n r
  split
  ·rename_i q hq
   obtain⟨_,h2⟩:=c5h hq
   obtain⟨n',h3,rfl⟩:=h2 j x h
   have:=hd.i_inv
   subst this
   simp only[j4,c4i q j n' h3]
  ·trivial
 ·split
  ·rename_i q hq
   obtain⟨_,h2⟩:=c5g hq
   obtain⟨b,h3,h4⟩:=h2 j x h
   have:=hd.bOf h4
   subst this
   simp only[j4,c4h q j b h3]
  ·trivial
theorem b9n (cs:List SV) (sz:Nat):∀(n k j:Nat),j < n→(a7p cs sz k n)[j]?=some ((cs[k + j * sz]?).getD .dead):=by
 intro n
 induction n with
 | zero=>intro k j h; omega
 | succ n ih =>
  intro k j h
  cases j with
  | zero=>simp only[a7p,t0,z3c,Nat.zero_mul,z1i]; cases cs[k]? <;> rfl
  | succ j =>
   simp only[a7p,z1t]
   rw[ih (k + sz) j (by omega)]
   congr 3
   rw[z3f]; omega
theorem b6h (cs:List SV) (sz len:Nat):∀(n k j:Nat),(a32 cs sz len k n)[j]?=if j < n then some (c22 (a7p cs sz (k + j) len)) else none:=by
 intro n
 induction n with
 | zero=>intro k j; simp[a32]
 | succ n ih =>
  intro k j
  cases j with
  | zero=>simp[a32]
  | succ j =>
   simp only[a32,z1t,ih]
   rw[show k + 1 + j=k + (j + 1) by omega]
   by_cases h:j < n
   ·rw[if_pos h,if_pos (by omega)]
   ·rw[if_neg h,if_neg (by omega)]
theorem a3x (cs:List SV) (sz len:Nat):∀(n k:Nat),(a32 cs sz len k n).length=n:=by
 intro n
 induction n with
 | zero=>intro k; rfl
 | succ n ih=>intro k; simp[a32,ih]
theorem a71 (z:List SV) (n:Nat):(b3r z n).length=n * z.length:=by
 induction n with
 | zero=>simp[b3r]
 | succ n ih=>simp[b3r,ih,z3f,Nat.add_comm]
theorem c7g (z:List SV):∀(n j:Nat),j < n * z.length→(b3r z n)[j]?=z[j % z.length]?:=by
 intro n
 induction n with
 | zero=>intro j h; simp at h
 | succ n ih =>
  intro j h
  rw[z3f] at h
  simp only[b3r]
  by_cases hj:j < z.length
  ·rw[z0t hj,Nat.mod_eq_of_lt hj]
  ·rw[z1c (by omega),ih _ (by omega),← Nat.mod_eq_sub_mod (show j ≥ z.length by omega)]
theorem StepPost.row {base e len:Nat} {cs:List SV} {vs:List Value} {sz:Nat} (hS:∀ g,ρ.S g→g < W.heap.size) (hsz:0 < sz) (hlen:cs.length=len * sz) (hm:len≤maxLen) (h:DenL ρ cs vs) :
  StepPost ρ W base (.sl base len) [.oarr e len (a32 cs sz len 0 sz)] (.slice (some ⟨W.heap.size,0,none⟩) len len) (W.alloc (.cells vs.toArray e)):=by
 refine StepPost.one (x:=(some ⟨W.heap.size,0,none⟩,len)) ((Below.refl _ _).alloc (z0q _) _) ?_ ?_ ?_
 ·exact .sl (Env.with_same ρ base _) (fun _=>by simp)
 ·refine⟨_,len,vs,Env.with_same ρ base _,?_,fun a ha hs=>?_,by rw[a3x]; exact hsz,fun j hj k col hc=>?_⟩
  ·rw[a3x]
   have:=z3p (base:=0) (e:=e) (size:=sz) W vs.toArray len (z2j _) hm (by simp[h.1,hlen])
   simpa using this
  ·simp only[z0a] at ha
   subst ha
   exact absurd (hS _ hs) (z1k _)
  ·rw[a3x]
   rw[b6h] at hc
   split at hc
   ·rename_i hk
    simp only[z0a,z1d] at hc
    subst hc
    have hlt:j * sz + k < cs.length:=by
     rw[hlen]
     have:(j + 1) * sz≤len * sz:=z1w sz hj
     rw[z3f] at this
     omega
    obtain⟨v,hv,hd⟩:=h.get (z0i hlt)
    refine⟨v,hv,c37 (x:=cs[j * sz + k]) ?_ hd⟩
    rw[b9n cs sz len k j hj,Nat.add_comm k,z0i hlt]
    rfl
   ·cases hc
 ·intro a ha _
  simp only[z0a] at ha
  subst ha
  exact z0q _
theorem b03 {offs:Nat→Option (Nat × Nat)}:∀ {ps:List (Nat × SV)} {cs cs':List SV},a0i offs cs ps=some cs'→cs'.length=cs.length:=by
 intro ps
 induction ps with
 | nil=>intro cs cs' h; simp only[a0i,z0a] at h; subst h; rfl
 | cons p ps ih =>
  intro cs cs' h
  obtain⟨k,v⟩:=p
  simp only[a0i] at h
  split at h
  ·rename_i o xs _ _
   cases hl:Nat.beq xs.length o.2
   ·simp[hl] at h
   ·simp only[hl,z0f] at h
    split at h
    ·rename_i cs1 hw
     rw[ih h,(a8q hw).1]
    ·cases h
  ·cases h
theorem b1n (w:World) (t e:TypeId) (parts:Array (Nat × Value)) (cells:Array Value) (ie:TypeInfo)
  (hu:P.underlying t=some (.slice e)) (hie:P.info? e=some ie) (h:Instr.fill (fun i=>some (i * ie.size,ie.size)) #[] parts.toList=some cells) :
  (Instr.buildSlice t 0 parts).run P w=.ok (.slice (some ⟨w.heap.size,0,none⟩) 0 0) (w.alloc (.cells cells e)):=by
 simp[Instr.buildSlice,run_underlying hu,sizeOf,typeInfo,hie,h,newRow,Array.range_zero']
theorem c4w {t len:Nat} {ps:Array (Nat × Operand)} {ar:AR} (hT:TabOk P T) (hS:∀ g,ρ.S g→g < W.heap.size) (ho:o.op=.buildSlice t len ps) (hG:GlobOk T ρ) (hs:OpsOk ρ sl a (ps.toList.map (·.2))) (hc:sat a c) (h:b0i T sl m c t len ps=some ar) :
  OpTo P a o W (StepPost ρ W m.length ar.sv ar.new):=by
 unfold b0i at h
 cases hl:b8f T
 ·rw[hl] at h; cases h
 rw[hl,z0f] at h
 split at h
 ·rename_i ti q n hti hvs
  split at h
  ·rename_i te hte
   cases hk:(Nat.beq len 1 && Nat.beq ti.kind 3 && Nat.beq te.kind 3 && Nat.beq te.size 1 && Nat.beq te.zero.length 1 && Nat.blt q m.length)
   ·rw[hk] at h; cases h
   ·simp only[hk,z0f,z0a] at h
    subst h
    simp only[z0d] at hk
    obtain⟨⟨⟨⟨⟨k0,k1⟩,k2⟩,k3⟩,k4⟩,k5⟩:=hk
    have k0:=z0b k0
    subst k0
    have k1:=z0b k1
    have k3:=z0b k3
    have k4:=z0b k4
    have k5:q < m.length:=by rwa [z0u] at k5
    obtain⟨h1,h2⟩:=a0v hG hvs hs hc
    simp only[z2b,List.map_nil] at h1 h2
    obtain⟨v,vs0,ev,hdv,hnil⟩:=h2.inv
    obtain rfl:=hnil.inv_nil
    obtain⟨A,cc,hρq,rfl,hne⟩:=hdv.sl_inv
    obtain⟨i,hi,hsz,_,hzero⟩:=s4 (hT.types _ te hte)
    obtain⟨z,hz1,hz2⟩:=hzero (by intro e; simp[e] at k4)
    have hu:=(q6 (hT.types t ti hti) k1).1
    have hps:ps.toList.map (fun p=>(p.1,a.eval p.2))=[(0,.slice A n cc)]:=by
     match hpl:ps.toList,h1,ev with
     | [p],h1,ev =>
      obtain⟨p1,p2⟩:=p
      simp at h1 ev
      simp[h1,ev]
     | [],h1,_=>simp at h1
     | _ :: _ :: _,h1,_=>simp at h1
    have hzl:z.cells.size=1:=by have:=(hz2 ρ).1; rw[k4] at this; simpa using this
    have hrun:(execOp a.eval o).run P W=.ok (.value (.slice (some ⟨W.heap.size,0,none⟩) 1 1)) (W.alloc (.cells #[.slice A n cc] ti.elem)):=by
     have hf':Instr.fill (fun i=>some (i * te.size,te.size)) ((Array.range (1 * i.size)).map (z.cells[· % z.cells.size]!)) (ps.map fun(i,x)=>(i,a.eval x)).toList=some #[.slice A n cc]:=by
      rw[z3h,hps]
      have hgen:∀ B:Array Value,B.size=1→B.setIfInBounds 0 (.slice A n cc) = #[.slice A n cc]:=fun B hB=>by
       apply Array.ext
       ·simp[hB]
       ·intro j h1 h2
        simp at h2
        subst h2
        simp
      have:=hgen ((Array.range (1 * i.size)).map (z.cells[· % z.cells.size]!)) (by simp[hsz,k3])
      simp[Instr.fill,hsz,k3,Value.cells] at this ⊢
      exact this
     simp only[execOp,ho,z1a,run_buildSlice W t ti.elem 1 _ #[.slice A n cc] i z hu hi hz1 (by rw[hsz]; omega) (by rw[hsz]; omega) (by rw[hsz] at *; exact hf'),z0o]
     rfl
    refine OpTo.value hrun (StepPost.one (x:=(some ⟨W.heap.size,0,none⟩,1)) ((Below.refl _ _).alloc (z0q _) _) ?_ ?_ ?_)
    ·exact .sl (Env.with_same ρ m.length _) (fun _=>by simp)
    ·refine⟨some ⟨W.heap.size,0,none⟩,1,[.slice A n cc],Env.with_same ρ m.length _,?_,fun a ha hs=>?_,z3s,fun j hj hne=>?_,fun j j' B l d B' l' d' hj hj' _ _ _ _ _=>by omega,fun j q' hj hq'=>?_⟩
     ·have:=z3p (base:=0) (e:=ti.elem) (size:=1) W #[.slice A n cc] 1 (z2j _) (by simp[maxLen]) (by simp)
      simpa using this
     ·simp only[z0a] at ha
      subst ha
      exact absurd (hS _ hs) (z1k _)
     ·have:j=0:=by omega
      subst this
      exact absurd rfl hne
     ·cases hj; cases hq'
      exact⟨A,cc,by rw[Env.with_ne _ _ (by omega)]; exact hρq,rfl,hne⟩
    ·intro a ha _
     simp only[z0a] at ha
     subst ha
     exact z0q _
  ·cases h
 ·rename_i ti hti hvs
  split at h
  ·rename_i te hte
   cases hk:(Nat.beq len 1 && Nat.beq ti.kind 3 && Nat.beq te.kind 3 && Nat.beq te.size 1 && Nat.beq te.zero.length 1)
   ·rw[hk] at h; cases h
   ·simp only[hk,z0f,z0a] at h
    subst h
    simp only[z0d] at hk
    obtain⟨⟨⟨⟨k0,k1⟩,k2⟩,k3⟩,k4⟩:=hk
    have k0:=z0b k0
    subst k0
    have k1:=z0b k1
    have k3:=z0b k3
    have k4:=z0b k4
    obtain⟨h1,h2⟩:=a0v hG hvs hs hc
    simp only[z2b,List.map_nil] at h1 h2
    obtain⟨v,vs0,ev,hdv,hnil⟩:=h2.inv
    obtain rfl:=hnil.inv_nil
    cases hdv
    obtain⟨i,hi,hsz,_,hzero⟩:=s4 (hT.types _ te hte)
    obtain⟨z,hz1,hz2⟩:=hzero (by intro e; simp[e] at k4)
    have hu:=(q6 (hT.types t ti hti) k1).1
    have hps:ps.toList.map (fun p=>(p.1,a.eval p.2))=[(0,.slice none 0 0)]:=by
     match hpl:ps.toList,h1,ev with
     | [p],h1,ev =>
      obtain⟨p1,p2⟩:=p
      simp at h1 ev
      simp[h1,ev]
     | [],h1,_=>simp at h1
     | _ :: _ :: _,h1,_=>simp at h1
    have hzl:z.cells.size=1:=by have:=(hz2 ρ).1; rw[k4] at this; simpa using this
    have hrun:(execOp a.eval o).run P W=.ok (.value (.slice (some ⟨W.heap.size,0,none⟩) 1 1)) (W.alloc (.cells #[.slice none 0 0] ti.elem)):=by
     have hf':Instr.fill (fun i=>some (i * te.size,te.size)) ((Array.range (1 * i.size)).map (z.cells[· % z.cells.size]!)) (ps.map fun(i,x)=>(i,a.eval x)).toList=some #[.slice none 0 0]:=by
      rw[z3h,hps]
      have hgen:∀ B:Array Value,B.size=1→B.setIfInBounds 0 (.slice none 0 0) = #[.slice none 0 0]:=fun B hB=>by
       apply Array.ext
       ·simp[hB]
       ·intro j h1 h2
        simp at h2
        subst h2
        simp
      have:=hgen ((Array.range (1 * i.size)).map (z.cells[· % z.cells.size]!)) (by simp[hsz,k3])
      simp[Instr.fill,hsz,k3,Value.cells] at this ⊢
      exact this
     simp only[execOp,ho,z1a,run_buildSlice W t ti.elem 1 _ #[.slice none 0 0] i z hu hi hz1 (by rw[hsz]; omega) (by rw[hsz]; omega) (by rw[hsz] at *; exact hf'),z0o]
     rfl
    refine OpTo.value hrun (StepPost.one (x:=(some ⟨W.heap.size,0,none⟩,1)) ((Below.refl _ _).alloc (z0q _) _) ?_ ?_ ?_)
    ·exact .sl (Env.with_same ρ m.length _) (fun _=>by simp)
    ·refine⟨some ⟨W.heap.size,0,none⟩,1,[.slice none 0 0],Env.with_same ρ m.length _,?_,fun a ha hs=>?_,z3s,fun j hj hne=>?_,fun j j' B l d B' l' d' hj hj' _ _ _ _ _=>by omega,fun j q' hj hq'=>by cases hj⟩
     ·have:=z3p (base:=0) (e:=ti.elem) (size:=1) W #[.slice none 0 0] 1 (z2j _) (by simp[maxLen]) (by simp)
      simpa using this
     ·simp only[z0a] at ha
      subst ha
      exact absurd (hS _ hs) (z1k _)
     ·have:j=0:=by omega
      subst this
      exact⟨none,0,[],rfl,⟨by simp,.inl ⟨rfl,rfl⟩⟩,fun b hb=>(by cases hb),fun i hi=>absurd hi (z1l _)⟩
    ·intro a ha _
     simp only[z0a] at ha
     subst ha
     exact z0q _
  ·cases h
 ·cases h
theorem c2c {t len:Nat} {ps:Array (Nat × Operand)} {ti te:TI} {vs:List (Nat × SV)} {cs:List SV} (W:World) (hT:TabOk P T) (ho:o.op=.buildSlice t len ps) (hG:GlobOk T ρ) (hs:OpsOk ρ sl a (ps.toList.map (·.2))) (hc:sat a c) (hti:g7 T.types t=some ti) (hvs:a0u T sl c ps.toList=some vs) (hte:g7 T.types ti.elem=some te)
  (k1:ti.kind=3) (k2:len * te.size≤1000) (k3:1≤te.size) (k4:te.zero.length=te.size) (hcs:a0i (fun k=>bif Nat.blt k len then some (k * te.size,te.size) else none) (b3r te.zero len) vs=some cs) :
  ∃ us:List Value,(execOp a.eval o).run P W=.ok (.value (.slice (some ⟨W.heap.size,0,none⟩) len len)) (W.alloc (.cells us.toArray ti.elem))∧DenL ρ cs us∧cs.length=len * te.size:=by
 obtain⟨i,hi,hsz,_,hzero⟩:=s4 (hT.types _ te hte)
 obtain⟨z,hz1,hz2⟩:=hzero (by intro e; simp[e] at k4; omega)
 have hu:=(q6 (hT.types t ti hti) k1).1
 obtain⟨h1,h2⟩:=a0v hG hvs hs hc
 have hzl:z.cells.toList.length=te.size:=by rw[(hz2 ρ).1,k4]
 have hzs:z.cells.size=te.size:=by simpa using hzl
 let base:=(Array.range (len * te.size)).map (z.cells[· % z.cells.size]!)
 have hbase:DenL ρ (b3r te.zero len) base.toList:=by
  refine⟨by simp[base,a71,k4],fun j x v hx hv=>?_⟩
  have hj:j < len * te.zero.length:=by have:=(z0c.1 hx).1; rw[a71] at this; exact this
  rw[c7g _ _ _ hj,k4] at hx
  have hv':base[j]?=some v:=by simpa using hv
  simp only[base,Array.getElem?_map,hzs] at hv'
  rw[k4] at hj
  rw[Array.getElem?_range,if_pos hj] at hv'
  simp only[z2l,z0a] at hv'
  have hmod:j % te.size < z.cells.size:=by rw[hzs]; exact Nat.mod_lt _ (by omega)
  refine(hz2 ρ).2 _ x v hx ?_
  rw[← hv',getElem!_pos z.cells _ hmod]
  simp[hmod]
 obtain⟨us,hf,hd⟩:=b2v (place:=fun i=>some (i * te.size,te.size)) (fun k q hq=>by
  cases hb:Nat.blt k len
  ·simp[hb] at hq
  ·simp only[hb,z0f,z0a] at hq
   subst hq
   rfl) vs (ps.toList.map fun p=>(p.1,a.eval p.2)) (b3r te.zero len) cs base.toList hcs hbase (by rw[h1]; simp) (by simpa [List.map_map,Function.comp_def] using h2)
 have hlen:cs.length=len * te.size:=by rw[b03 hcs,a71,k4]
 refine⟨us,?_,hd,hlen⟩
 have hf':Instr.fill (fun i=>some (i * te.size,te.size)) base (ps.map fun(i,x)=>(i,a.eval x)).toList=some us.toArray:=by
  rw[z3h]; simpa using hf
 by_cases h0:len=0
 ·subst h0
  have hb0:base = #[]:=by simp[base]
  rw[hb0] at hf'
  have hr:=b1n W t ti.elem _ us.toArray i hu hi (by rw[hsz]; exact hf')
  simp only[execOp,ho,z1a,hr,z0o]
  rfl
 ·have hpos:0 < len * te.size:=Nat.mul_pos (by omega) (by omega)
  simp[execOp,ho,run_buildSlice W t ti.elem len _ us.toArray i z hu hi hz1 (by rw[hsz]; omega) (by rw[hsz]; omega) (by rw[hsz]; exact hf')]
theorem b4s {t len:Nat} {ps:Array (Nat × Operand)} {ar:AR} {oty:Nat} (hT:TabOk P T) (hS:∀ g,ρ.S g→g < W.heap.size) (ho:o.op=.buildSlice t len ps) (hG:GlobOk T ρ) (hs:OpsOk ρ sl a (ps.toList.map (·.2))) (hc:sat a c) (h:q8 T sl m c oty (.buildSlice t len ps)=some ar) :
  OpTo P a o W (StepPost ρ W m.length ar.sv ar.new):=by
 simp only[q8] at h
 split at h
 ·rename_i ar0 har0
  cases h
  exact c4w hT hS ho hG hs hc har0
 split at h
 ·rename_i ti vs hti hvs
  split at h
  ·rename_i te hte
   cases hk:(Nat.beq ti.kind 3 && Nat.ble (len * te.size) 1000 && Nat.ble 1 te.size && Nat.beq te.zero.length te.size && !(Nat.beq te.kind 3 && Nat.ble 1 len))
   ·rw[hk] at h; cases h
   ·simp only[hk,z0f] at h
    simp only[z0d] at hk
    obtain⟨⟨⟨⟨k1,k2⟩,k3⟩,k4⟩,_⟩:=hk
    have k1:=z0b k1
    have k2:=z1q k2
    have k3:=z1q k3
    have k4:=z0b k4
    split at h
    ·rename_i cs hcs
     cases hns:d3s cs
     ·rw[hns] at h; cases h
     rw[hns,z0f] at h
     simp only[z0a] at h
     subst h
     obtain⟨us,hrun,hd,hlen⟩:=c2c W hT ho hG hs hc hti hvs hte k1 k2 k3 k4 hcs
     exact OpTo.value (v:=.slice (some ⟨W.heap.size,0,none⟩) len len) (W':=W.alloc (.cells us.toArray ti.elem)) hrun (StepPost.row hS (by omega) hlen (by unfold maxLen; have:=Nat.le_mul_of_pos_right len (show 0 < te.size by omega); omega) hd)
    ·cases h
  ·cases h
 ·cases h
theorem b13 {T:Tab} {ts:Array Nat} (hT:TabOk P T) (h:a21 T ts.toList=true):∃ t e,ts[0]?=some t∧P.underlying t=some (.slice e):=by
 obtain⟨ts⟩:=ts
 cases ts with
 | nil=>simp[a21] at h
 | cons t r =>
  simp only[a21] at h
  split at h
  ·rename_i ti hti
   exact⟨t,ti.elem,rfl,(q6 (hT.types t ti hti) (z0b h)).1⟩
  ·cases h
theorem c1g {b:Builtin} {cl:Call} {vs:List SV} {ar:AR} (hT:TabOk P T) (ho:o.op=.call cl) (hcl:cl.callee=.builtin b) (hd:DenL ρ vs (cl.args.toList.map a.eval)) (h:a1w T b cl.argTypes.toList vs=some ar) :
  OpTo P a o W (StepPost ρ W m.length ar.sv ar.new):=by
 have hrun:∀ {v:Value},(builtin b cl.argTypes o.type (cl.args.map fun | .const _=>true | _=>false) (cl.args.map a.eval)).run P W=.ok (.value v) W→(execOp a.eval o).run P W=.ok (.value v) W:=fun {v} hv=>by
  simp only[execOp,ho,resolve,hcl,z1a,z3g,z0o,invoke]
  exact hv
 have hargs:∀ {l:List Value},cl.args.toList.map a.eval=l→cl.args.map a.eval=l.toArray:=fun {l} e=>by
  rw[← e]; apply Array.ext'; simp
 have hlen:∀ {A:Option Addr} {n k:Nat},a21 T cl.argTypes.toList=true→cl.args.map a.eval = #[.slice A n k]→(execOp a.eval o).run P W=.ok (.value (.int .i64 n)) W∨b≠.len:=fun {A n k} hs e=>by
  by_cases hb:b=.len
  ·subst hb
   obtain⟨t,el,ht,hu⟩:=b13 hT hs
   refine .inl (hrun ?_)
   rw[e]
   simp[builtin,Builtin.len_,ht,run_underlying hu,goInt]
  ·exact .inr hb
 unfold a1w at h
 split at h
 ·rename_i r n
  obtain⟨u,us,e,h1,h2⟩:=hd.inv
  obtain rfl:=h2.inv_nil
  obtain⟨A,k,_,rfl,_⟩:=h1.sl_inv
  cases hs:a21 T cl.argTypes.toList
  ·simp[hs] at h
  ·simp only[hs,z0f,z0a] at h
   subst h
   exact OpTo.pure ((hlen hs (hargs e)).resolve_right (by simp)) (.i _ _)
 ·rename_i r sz lo n
  obtain⟨u,us,e,h1,h2⟩:=hd.inv
  obtain rfl:=h2.inv_nil
  obtain⟨A,k,A',c',_,rfl,_⟩:=h1.sub_inv
  cases hs:a21 T cl.argTypes.toList
  ·simp[hs] at h
  ·simp only[hs,z0f,z0a] at h
   subst h
   exact OpTo.pure ((hlen hs (hargs e)).resolve_right (by simp)) (.i _ _)
 ·obtain⟨u,us,e,h1,h2⟩:=hd.inv
  obtain rfl:=h2.inv_nil
  cases h1
  cases hs:a21 T cl.argTypes.toList
  ·simp[hs] at h
  ·simp only[hs,z0f,z0a] at h
   subst h
   exact OpTo.pure ((hlen hs (hargs e)).resolve_right (by simp)) (.i _ _)
 ·rename_i s
  obtain⟨u,us,e,h1,h2⟩:=hd.inv
  obtain rfl:=h2.inv_nil
  cases h1
  cases hs:b88 T cl.argTypes.toList
  ·simp[hs] at h
  ·simp only[hs,z0f,z0a] at h
   subst h
   obtain⟨t,hu,ht⟩:∃ t,P.underlying t=some .string∧cl.argTypes[0]?=some t:=by
    unfold b88 at hs
    split at hs
    ·rename_i t r hl
     split at hs
     ·rename_i ti hti
      exact⟨t,b60 (hT.types t ti hti) (z0b hs),by rw[← z3k,hl]; rfl⟩
     ·cases hs
    ·cases hs
   refine OpTo.pure (v:=.int .i64 s.size) (hrun ?_) (.i _ _)
   rw[hargs e]
   simp[builtin,Builtin.len_,ht,run_underlying hu,goInt]
 ·rename_i k x k' y
  obtain⟨u,us,e,h1,h2⟩:=hd.inv
  obtain⟨v,vs',rfl,h3,h4⟩:=h2.inv
  obtain rfl:=h4.inv_nil
  obtain rfl:=h1.i_inv
  obtain rfl:=h3.i_inv
  cases hk:kEq k k'
  ·simp[hk] at h
  ·simp only[hk,z0f,z0a] at h
   subst h
   refine OpTo.pure (v:=.int k (if y > x then y else x)) (hrun ?_) (.i _ _)
   rw[hargs e]
   simp[builtin,run_max_int2]
 ·rename_i k x k' y
  obtain⟨u,us,e,h1,h2⟩:=hd.inv
  obtain⟨v,vs',rfl,h3,h4⟩:=h2.inv
  obtain rfl:=h4.inv_nil
  obtain rfl:=h1.i_inv
  obtain rfl:=h3.i_inv
  cases hk:kEq k k'
  ·simp[hk] at h
  ·simp only[hk,z0f,z0a] at h
   subst h
   refine OpTo.pure (v:=.int k (if y < x then y else x)) (hrun ?_) (.i _ _)
   rw[hargs e]
   simp[builtin,run_min_int2]
 ·cases h
theorem DenL.append {xs ys:List SV} {us vs:List Value} (h:DenL ρ xs us) (k:DenL ρ ys vs):DenL ρ (xs ++ ys) (us ++ vs):=by
 induction xs generalizing us with
 | nil=>rw[h.inv_nil]; exact k
 | cons x r ih =>
  obtain⟨u,ws,rfl,h1,h2⟩:=h.inv
  exact DenL.cons h1 (ih h2)
theorem a88 {cl:Call} {f:Nat} {ys vs:List SV} (hG:GlobOk T ρ) (ho:o.op=.call cl) (hs:OpsOk ρ sl a ((Op.call cl).operands.toList)) (hc:sat a c) (hcl:a3m T sl c cl.callee=some (f,ys)) (hvs:a2l T sl c cl.args.toList=some vs) (hfn:o8 P f) :
  ∃ us:List Value,DenL ρ (vs ++ ys) us∧(execOp a.eval o).run P W=.ok (.enter f us.toArray) W:=by
 have hda:=a4k hG hvs (hs.sub (by intro x hx; simp only[Op.operands,Call.operands]; simp; exact .inr (by simpa using hx))) hc
 unfold a3m at hcl
 split at hcl
 ·rename_i x hx
  split at hcl
  ·rename_i f' ys' hv
   simp only[z0a,z0g] at hcl
   obtain⟨rfl,rfl⟩:=hcl
   have hdx:=f7 hG hv (hs.sub (by intro y hy; simp only[z0r] at hy; subst hy; simp only[Op.operands,Call.operands,hx]; simp)) hc
   obtain⟨ws,hw,hws⟩:∃ ws:List Value,a.eval x=.func (.func f') #[] ws.toArray∧DenL ρ ys' ws:=by
    generalize a.eval x=v at hdx
    cases hdx with
    | fn h1 h2=>exact⟨_,rfl,h1,h2⟩
   obtain⟨fn,hfn,hname,hbody⟩:=hfn
   refine⟨_,hda.append hws,?_⟩
   have h1:fn.name≠ "runtime.NumGoroutine":=by simpa using hname
   have h2:fn.body≠none:=by intro e; simp[e] at hbody
   have h3:cl.args.map a.eval ++ ws.toArray=(cl.args.toList.map a.eval ++ ws).toArray:=by apply Array.ext'; simp
   simp[execOp,ho,resolve,hx,Deferred.ofValue,hw,invoke,callFunc,hfn,h1,h2]
  ·cases hcl
 ·cases hcl
theorem b7u {f:Int→Option Int} {l:List Int} (hl:l.Nodup) (h:∀ a,a∈l↔f a≠none):b2h f=l.length:=by
 have hex:∃ l:List Int,l.Nodup∧∀ a,a∈l↔f a≠none:=⟨l,hl,h⟩
 unfold b2h
 rw[dif_pos hex]
 obtain⟨h1,h2⟩:=hex.choose_spec
 exact List.Perm.length_eq ((List.perm_ext_iff_of_nodup h1 hl).2 fun a=>(h2 a).trans (h a).symm)
theorem c4u {b:Builtin} {cl:Call} {vs:List SV} {ar:AR} (hT:TabOk P T) (hblk:∀ r k,m[r]?=some k→ρ r≠none→BR ρ W r k) (ho:o.op=.call cl) (hcl:cl.callee=.builtin b) (hd:DenL ρ vs (cl.args.toList.map a.eval)) (h:b02 T m b cl.argTypes.toList vs=some ar) :
  OpTo P a o W (StepPost ρ W m.length ar.sv ar.new):=by
 unfold b02 at h
 split at h
 ·rename_i r
  split at h
  ·rename_i k k' f hm
   cases hs:c0m T cl.argTypes.toList
   ·rw[hs] at h; cases h
   ·rw[hs] at h
    cases h
    obtain⟨u,us,e,h1,h2⟩:=hd.inv
    obtain rfl:=h2.inv_nil
    obtain⟨g,c',hρ,rfl⟩:∃ g c,ρ r=some (some ⟨g,0,none⟩,c)∧u=.map (some g):=by
     cases h1 with
     | mp h=>exact⟨_,_,h,rfl⟩
    obtain⟨g',es,clock,c'',q1,_,q3,q4⟩:=hblk r _ (p9 hm) (by rw[hρ]; simp)
    rw[hρ] at q1
    simp only[z0a,z0g,z2a,and_true] at q1
    obtain⟨rfl,rfl⟩:=q1
    obtain⟨t,kt,et,hu,ht⟩:∃ t kt et,P.underlying t=some (.map kt et)∧cl.argTypes[0]?=some t:=by
     unfold c0m at hs
     split at hs
     ·rename_i t r hl
      split at hs
      ·rename_i ti hti
       exact⟨t,_,_,a5q (hT.types t ti hti) (z0b hs),by rw[← z3k,hl]; rfl⟩
      ·cases hs
     ·cases hs
    have hcard:b2h f=es.size:=by
     obtain⟨hst,m1,m2⟩:=q4
     let key:Value→Int:=fun v=>open Classical in if h:∃ n,KeyIs k n v then h.choose else 0
     have hk:∀ x∈es.toList,KeyIs k (key x.key) x.key:=fun x hx=>by
      obtain⟨n,v,e1,_⟩:=m1 x hx
      have hex:∃ n,KeyIs k n x.key:=⟨n,e1⟩
      have e:key x.key=hex.choose:=dif_pos hex
      rw[e]
      exact hex.choose_spec
     have hnd:(es.toList.map fun x=>key x.key).Nodup:=by
      have h3:=hst.2.2
      rw[List.Nodup,List.pairwise_map] at h3 ⊢
      refine List.Pairwise.imp_of_mem (fun {x y} hx hy hxy he=>hxy ?_) h3
      have:=hk x hx
      rw[he] at this
      exact this.val (hk y hy)
     rw[b7u hnd fun a=>?_]
     ·simp
     ·rw[z2h]
      constructor
      ·rintro ⟨x,hx,rfl⟩
       obtain⟨n,v,e1,_,e3⟩:=m1 x hx
       have:=e1.num (hk x hx)
       rw[← this,e3]
       simp
      ·intro ha
       cases hfa:f a with
       | none=>exact absurd hfa ha
       | some v =>
        obtain⟨x,hx,e1⟩:=m2 a v hfa
        exact⟨x,hx,(hk x hx).num e1⟩
    refine OpTo.pure (v:=.int .i64 (b2h f)) ?_ (.i _ _)
    have hargs:cl.args.map a.eval = #[.map (some g)]:=by
     have:cl.args.toList.map a.eval=[.map (some g)]:=e
     apply Array.ext'; simpa using this
    simp only[execOp,ho,resolve,hcl,z1a,z3g,z0o,invoke]
    rw[hargs]
    simp[builtin,Builtin.len_,ht,run_underlying hu,goInt,z2d q3,hcard]
  ·cases h
 ·cases h
theorem d0b {cl:Call} {ar:AR} {oty:Nat} (hT:TabOk P T) (hS:∀ g,ρ.S g→g < W.heap.size) (hblk:∀ r k,m[r]?=some k→ρ r≠none→BR ρ W r k) (hf:∀ r,m.length≤r→r < m.length + ar.new.length→ρ r=none) (ho:o.op=.call cl) (hG:GlobOk T ρ) (hs:OpsOk ρ sl a ((Op.call cl).operands.toList)) (hc:sat a c)
  (h:q8 T sl m c oty (.call cl)=some ar) (hp:∀ p∈ar.pre,p):OpTo P a o W (StepPost ρ W m.length ar.sv ar.new):=by
 simp only[q8] at h
 split at h
 ·rename_i b hcl
  split at h
  ·rename_i vs hvs
   split at h
   ·rename_i ar' hlm
    cases h
    exact c4u hT hblk ho hcl (a4k hG hvs (hs.sub (by intro x hx; simp only[Op.operands,Call.operands]; simp; exact .inr (by simpa using hx))) hc) hlm
   exact c1g hT ho hcl (a4k hG hvs (hs.sub (by intro x hx; simp only[Op.operands,Call.operands]; simp; exact .inr (by simpa using hx))) hc) h
  ·cases h
 ·split at h
  ·rename_i f ys vs hcl hvs
   split at h
   ·rename_i F hF
    obtain⟨us,hd,e⟩:=a88 (W:=W) hG ho hs hc hcl hvs (hT.calls f F hF).fn
    have:=(hT.calls f F hF).ok ρ W m _ _ ar hG.gl hS hblk hf hd h hp
    unfold OpTo
    rw[e]
    exact this
   ·cases h
  ·cases h
theorem c4t {x:Operand} {ar:AR} {oty:Nat} (ho:o.op=.assign x) (hG:GlobOk T ρ) (hs:OpsOk ρ sl a [x]) (hc:sat a c) (h:q8 T sl m c oty (.assign x)=some ar) :
  OpTo P a o W (StepPost ρ W m.length ar.sv ar.new):=by
 have he:(execOp a.eval o).run P W=.ok (.value (a.eval x)) W:=by simp[execOp,ho]
 simp only[q8] at h
 split at h
 ·rename_i hx
  have hd:=f7 hG hx hs hc
  have e:a.eval x=.slice none 0 0:=by generalize a.eval x=w at hd; cases hd; rfl
  have easy:(some (AR.mk [] .nilsl [])=some ar)→OpTo P a o W (StepPost ρ W m.length ar.sv ar.new):=fun h=>by
   simp only[z0a] at h
   subst h
   exact OpTo.pure he hd
  split at h
  ·rename_i ti hti
   cases hk:(Nat.beq ti.kind 3 && Nat.ble 1 ti.len)
   ·rw[hk] at h; exact easy h
   ·simp only[hk,z0f,z0a] at h
    subst h
    rw[z0d] at hk
    have hl:=z1q hk.2
    have hcp:∀ n,(a2f n Col.any).length=n:=fun n=>by induction n with | zero=>rfl | succ n ih=>simp[a2f,ih]
    refine OpTo.value he (StepPost.one (x:=(none,0)) (Below.refl _ _) ?_ ?_ ?_)
    ·rw[e]; exact .sl (Env.with_same ρ _ _) (fun h=>absurd h (by omega))
    ·exact⟨none,0,[],Env.with_same ρ _ _,World.ownsRow_nil _ _ _ _,⟨(fun a ha=>by cases ha),by rw[hcp]; omega,fun j hj=>absurd hj (by omega)⟩⟩
    ·intro a ha; cases ha
  ·exact easy h
 ·obtain⟨z,hz,rfl⟩:=a00 h
  exact OpTo.pure he (f7 hG hz hs hc)
theorem a8o {x:Option Operand} {v:Option SV} (hG:GlobOk T ρ) (h:a6a T sl c x=some v) (hs:OpsOk ρ sl a x.toList) (hc:sat a c):(x=none∧v=none)∨∃ y w,x=some y∧v=some w∧Den ρ w (a.eval y):=by
 cases x with
 | none=>simp only[a6a,z0a] at h; exact .inl ⟨rfl,h.symm⟩
 | some y =>
  simp only[a6a] at h
  split at h
  ·rename_i w hw
   simp only[z0a] at h
   exact .inr ⟨y,w,rfl,h.symm,f7 hG hw (hs.sub (by simp)) hc⟩
  ·cases h
theorem c4x {t:Nat} {x:Operand} {lo hi:Option Operand} {ar:AR} (hT:TabOk P T) (ho:o.op=.slice t x lo hi none) (hblk:∀ r k,m[r]?=some k→ρ r≠none→BR ρ W r k) (hG:GlobOk T ρ) (hs:OpsOk ρ sl a (x :: (lo.toList ++ hi.toList))) (hc:sat a c) (h:a7g T sl m c t x lo hi=some ar) (hp:∀ p∈ar.pre,p) :
  OpTo P a o W (StepPost ρ W m.length ar.sv ar.new):=by
 unfold a7g at h
 cases hsu:y4 1000001 T.sure
 ·simp[hsu] at h
 simp only[hsu,z0f] at h
 split at h
 ·rename_i ti r n kb b hti hx hhi
  split at h
  ·rename_i te n' cols hte hm
   cases hk:(Nat.beq ti.kind 3 && Nat.beq te.size cols.length)
   ·simp[hk] at h
   ·simp only[hk,z0f,z0a] at h
    simp only[z0d] at hk
    subst h
    have p1:n=n':=hp _ (by simp)
    have p2:0≤b:=hp _ (by simp)
    have p3:b≤n:=hp _ (by simp)
    subst p1
    obtain⟨hu,_⟩:=q6 (hT.types t ti hti) (z0b hk.1)
    obtain⟨i,hi',hsz,_,_⟩:=s4 (hT.types _ te hte)
    have hel:P.elem t=ti.elem:=by simp[Program.elem,hu]
    have hu':P.underlying t=some (.slice (P.elem t)):=by rw[hel]; exact hu
    have hdx:=f7 hG hx (hs.sub (by simp)) hc
    have hdh:=a8o hG hhi (hs.sub (by simp; intro y hy; exact .inr hy)) hc
    have hso:(sizeOf (P.elem t)).run P W=.ok te.size W:=by rw[hel]; simp[sizeOf,typeInfo,hi',hsz]
    obtain⟨A,k,hρ,e,hne⟩:=hdx.sl_inv
    obtain⟨A',c',h1,h2,h3⟩:=hblk r _ (p9 hm) (by rw[hρ]; simp)
    rw[hρ] at h1
    simp only[z0a,z0g] at h1
    obtain⟨rfl,rfl⟩:=h1
    rcases hdh with⟨rfl,h0⟩ | ⟨yh,wh,rfl,hw,hh⟩
    ·cases h0
    ·simp only[z0a] at hw
     subst hw
     have eh:=hh.i_inv
     have hrun:(execOp a.eval o).run P W=.ok (.value (.slice A b.toNat k)) W:=by
      have hA:(if k=0 then A else A.map (·.add (0 * te.size)))=A:=by
       rw[Nat.zero_mul]
       cases A with
       | none=>simp
       | some ad=>cases ad; simp[Addr.add]
      simp only[execOp,ho,z3l,z2l,z1a,e,eh,run_sliceAt_slice W t _ _ _ _ hu',run_slice_h W t A n k hu' kb b p2 (by omega),hso,z0o,sliced,Nat.sub_zero,hA]
      rfl
     refine OpTo.value hrun (StepPost.one (x:=(A,k)) (Below.refl _ _) (.sl (Env.with_same ρ _ _) (fun h0=>hne (by omega))) ⟨A,k,Env.with_same ρ _ _,by omega,fun h0=>?_⟩ (fun ad ha ho=>by cases ho))
     obtain⟨ad,ha,hS,hcell⟩:=h3 (by omega)
     exact⟨ad,ha,hS,fun j hj kk col hcol=>hcell j (by omega) kk col hcol⟩
  ·cases h
 ·cases h
theorem c7q {t:Nat} {x:Operand} {lo hi:Option Operand} {ar:AR} {oty:Nat} (hT:TabOk P T) (ho:o.op=.slice t x lo hi none) (hblk:∀ r k,m[r]?=some k→ρ r≠none→BR ρ W r k) (hG:GlobOk T ρ) (hs:OpsOk ρ sl a (x :: (lo.toList ++ hi.toList))) (hc:sat a c) (h:q8 T sl m c oty (.slice t x lo hi none)=some ar) (hp:∀ p∈ar.pre,p) :
  OpTo P a o W (StepPost ρ W m.length ar.sv ar.new):=by
 simp only[q8] at h
 split at h
 ·rename_i ar' hn
  simp only[z0a] at h
  subst h
  exact c4x hT ho hblk hG hs hc hn hp
 split at h
 ·rename_i ti v lv hv hti hx hlo hhi
  split at h
  ·rename_i te hte
   cases hk:Nat.beq ti.kind 3
   ·simp[hk] at h
   ·simp only[hk,z0f] at h
    obtain⟨hu,_⟩:=q6 (hT.types t ti hti) (z0b hk)
    obtain⟨i,hi',hsz,_,_⟩:=s4 (hT.types _ te hte)
    have hel:P.elem t=ti.elem:=by simp[Program.elem,hu]
    have hu':P.underlying t=some (.slice (P.elem t)):=by rw[hel]; exact hu
    have hdx:=f7 hG hx (hs.sub (by simp)) hc
    have hdl:=a8o hG hlo (hs.sub (by simp; intro y hy; exact .inr (.inl hy))) hc
    have hdh:=a8o hG hhi (hs.sub (by simp; intro y hy; exact .inr (.inr hy))) hc
    have hso:(sizeOf (P.elem t)).run P W=.ok te.size W:=by rw[hel]; simp[sizeOf,typeInfo,hi',hsz]
    unfold b7i at h
    split at h
    ·rename_i r n
     obtain⟨A,k,hρ,e,hne⟩:=hdx.sl_inv
     split at h
     ·rename_i kq hkq
      split at h
      ·rename_i n' cols hsrc
       have hcap:n=n'→n≤k:=fun en=>by
        subst en
        have hb:=hblk r kq (p9 hkq) (by rw[hρ]; simp)
        cases kq <;> simp only[a5o] at hsrc <;> first | cases hsrc | skip
        ·obtain⟨A',c',h1,h2,_⟩:=hb
         rw[hρ] at h1
         simp only[z0a,z0g] at h1
         obtain⟨rfl,rfl⟩:=h1
         exact h2
        ·obtain⟨A',c',vs,h1,h2,_⟩:=hb
         rw[hρ] at h1
         simp only[z0a,z0g] at h1
         obtain⟨rfl,rfl⟩:=h1
         rcases h2.2 with⟨_,h0⟩ | ⟨g,cap,cur,h,_,_,hnc,_⟩
         ·omega
         ·simp only[z0y] at h; omega
       have fin:∀ {l b:Nat},n=n'→l≤b→b≤n→(execOp a.eval o).run P W=.ok (.value (sliced A l b k te.size)) W→OpTo P a o W (StepPost ρ W m.length (.sub r te.size l (b - l)) []):=fun {l b} en h1 h2 hrun=>by
        have:=hcap en
        refine OpTo.pure hrun (.sub hρ fun h0=>⟨hne (by omega),?_⟩)
        rw[if_neg (by omega)]
       have go:∀ {v:Value},(Instr.slice t (.slice A n k) (lo.map a.eval) (hi.map a.eval) none).run P W=.ok v W→(execOp a.eval o).run P W=.ok (.value v) W:=fun {v} hr=>by
        rw[← e] at hr
        simp only[execOp,ho,z3l,z1a,run_sliceAt_slice W t _ _ _ _ hu',hr,z0o]
        rfl
       rcases hdl with⟨rfl,rfl⟩ | ⟨yl,wl,rfl,rfl,hl⟩ <;> rcases hdh with⟨rfl,rfl⟩ | ⟨yh,wh,rfl,rfl,hh⟩
       ·simp only[z0a] at h
        subst h
        have p1:n=n':=hp _ (by simp)
        have:=fin (l:=0) (b:=n) p1 (by omega) (by omega) (go (by simp only[z3l,run_slice_all W t A n k hu',hso,z0o]))
        exact this
       ·have⟨kh,b,eb⟩:∃ kh b,wh=.i kh b:=by cases wh <;> first | exact⟨_,_,rfl⟩ | simp at h
        subst eb
        cases hoa:c13 kq
        case true=>simp[hoa] at h
        simp only[hoa,z0m,z0a] at h
        subst h
        have p1:n=n':=hp _ (by simp)
        have p2:0≤b:=hp _ (by simp)
        have p3:b≤n:=hp _ (by simp)
        have:=hcap p1
        have eh:=hh.i_inv
        have:=fin (l:=0) (b:=b.toNat) p1 (by omega) (by omega) (go (by simp only[z3l,z2l,eh,run_slice_h W t A n k hu' kh b p2 (by omega),hso,z0o]))
        exact this
       ·have⟨kl,l,el0⟩:∃ kl l,wl=.i kl l:=by cases wl <;> first | exact⟨_,_,rfl⟩ | simp at h
        subst el0
        simp only[z0a] at h
        subst h
        have p1:n=n':=hp _ (by simp)
        have p2:0≤l:=hp _ (by simp)
        have p3:l≤n:=hp _ (by simp)
        have el:=hl.i_inv
        exact fin (l:=l.toNat) (b:=n) p1 (by omega) (by omega) (go (by simp only[z3l,z2l,el,run_slice_l W t A n k hu' kl l p2 p3,hso,z0o]))
       ·have⟨kl,l,kh,b,el0,eb⟩:∃ kl l kh b,wl=.i kl l∧wh=.i kh b:=by cases wl <;> cases wh <;> first | exact⟨_,_,_,_,rfl,rfl⟩ | simp at h
        subst el0 eb
        simp only[z0a] at h
        subst h
        have p1:n=n':=hp _ (by simp)
        have p2:0≤l:=hp _ (by simp)
        have p3:l≤b:=hp _ (by simp)
        have p4:b≤n:=hp _ (by simp)
        have:=hcap p1
        have el:=hl.i_inv
        have eh:=hh.i_inv
        exact fin (l:=l.toNat) (b:=b.toNat) p1 (by omega) (by omega) (go (by simp only[z2l,el,eh,run_slice_lh W t A n k hu' kl kh l b p2 p3 (by omega),hso,z0o]))
      ·cases h
     ·cases h
    ·cases h
  ·cases h
 ·cases h
theorem b1h (z:List SV):(a38 z).length=z.length:=by
 induction z with
 | nil=>rfl
 | cons x r ih=>simp[a38,ih]
theorem b6k (z:List SV) (k:Nat):(a38 z)[k]?=(z[k]?).map b26:=by
 induction z generalizing k with
 | nil=>simp[a38]
 | cons x r ih=>cases k <;> simp[a38,ih]
theorem b9z {S:Nat→Prop} {x:SV} {j:Nat} {v:Value} (h:Den ρ x v):j4 S W (b26 x) j v:=by
 cases h <;> simp only[b26,j4]
 exact⟨none,0,rfl,z0q _,fun h=>absurd h (z1k _)⟩
theorem b7h {t:Nat} {x y:Operand} {ar:AR} {oty:Nat} (hT:TabOk P T) (hS:∀ g,ρ.S g→g < W.heap.size) (ho:o.op=.makeSlice t x y) (hG:GlobOk T ρ) (hs:OpsOk ρ sl a [x,y]) (hc:sat a c) (h:q8 T sl m c oty (.makeSlice t x y)=some ar) (hp:∀ p∈ar.pre,p) :
  OpTo P a o W (StepPost ρ W m.length ar.sv ar.new):=by
 simp only[q8] at h
 split at h
 ·rename_i ti kl l kd d hti hx hy
  split at h
  ·rename_i te hte
   cases hk:(Nat.beq ti.kind 3 && Nat.ble 1 te.size && Nat.beq te.zero.length te.size)
   ·rw[hk] at h; cases h
   ·simp only[hk,z0f] at h
    simp only[z0d] at hk
    obtain⟨⟨k1,k2⟩,k3⟩:=hk
    have k2:=z1q k2
    have k3:=z0b k3
    obtain⟨hu,_⟩:=q6 (hT.types t ti hti) (z0b k1)
    obtain⟨i,hi,hsz,hby,hzero⟩:=s4 (hT.types _ te hte)
    obtain⟨z,hz1,hz2⟩:=hzero (by intro e; simp[e] at k3; omega)
    have hzl:z.cells.toList.length=te.size:=by rw[(hz2 ρ).1,k3]
    have ex:=(f7 hG hx (hs.sub (by simp)) hc).i_inv
    have ey:=(f7 hG hy (hs.sub (by simp)) hc).i_inv
    have cst:∀ {n:Nat},(te.bytes:Int) * (n:Int)≤281474976710656→i.bytes * n≤281474976710656:=fun {n} h=>by
     have h2:((i.bytes * n:Nat):Int)≤281474976710656:=by rw[hby,Int.natCast_mul]; exact h
     omega
    have hcp:∀ n,(a2f n Col.any).length=n:=fun n=>by induction n with | zero=>rfl | succ n ih=>simp[a2f,ih]
    have fin:∀ {n c:Nat} {xs:List Value} {W':World} {cols:List Col},(Instr.makeSlice t (.int kl l) (.int kd d)).run P W=.ok (.slice (some ⟨W.heap.size,0,none⟩) n c) W'→W'.ownsRow 0 ti.elem te.size (.slice (some ⟨W.heap.size,0,none⟩) n c) n xs→W.grownBy W' none →
      cols.length=te.size→(∀ j,j < n→∀ k col,cols[k]?=some col→∃ v,xs[j * te.size + k]?=some v∧j4 ρ.R W' col j v)→OpTo P a o W (StepPost ρ W m.length (.sl m.length n) [.oarr ti.elem n cols]):=fun {n c xs W' cols} hr hown hg hl hcols=>by
     refine OpTo.value (v:=.slice (some ⟨W.heap.size,0,none⟩) n c) (W':=W') (by simp only[execOp,ho,ex,ey,z1a,hr,z0o]; rfl) (StepPost.one (x:=(some ⟨W.heap.size,0,none⟩,c)) ⟨hg.os,hg.tape,hg.output,hg.size,fun k hk=>hg.block k hk (by simp)⟩ (.sl (Env.with_same ρ _ _) (fun _=>by simp)) ⟨_,c,xs,Env.with_same ρ _ _,by rw[hl]; exact hown,fun a ha hs=>?_,by omega,by rw[hl,Env.with_R]; exact hcols⟩ (fun a ha _=>?_))
     ·simp only[z0a] at ha
      subst ha
      exact absurd (hS _ hs) (z1k _)
     ·simp only[z0a] at ha
      subst ha
      exact z0q _
    have two:some (AR.mk [0≤l,d=l,(te.bytes:Int) * l≤281474976710656,l≤9223372036854775807] (.sl m.length l.toNat) [b6x ti.elem te l.toNat])=some ar→OpTo P a o W (StepPost ρ W m.length ar.sv ar.new):=fun h=>by
     simp only[z0a] at h
     subst h
     have p1:0≤l:=hp _ (by simp)
     have p2:d=l:=hp _ (by simp)
     have p3:(te.bytes:Int) * l≤281474976710656:=hp _ (by simp)
     have p4:l≤9223372036854775807:=hp _ (by simp)
     subst p2
     obtain⟨n,rfl⟩:=z2z p1
     have hb:i.bytes * n≤281474976710656:=cst p3
     obtain⟨W',hr,hown,hg⟩:=run_make_full (P:=P) W 0 t ti.elem i z te.size hu hi hz1 hsz kl kd n hb (by unfold maxLen; omega) (z2j _)
     have hcl:∀ j,j < n→∀(k:Nat) (x:SV),te.zero[k]?=some x→∃ v,(madeCells z.cells (n * te.size)).toList[j * te.size + k]?=some v∧Den ρ x v:=fun j hj k x hx=>by
      have hkk:k < te.size:=by have:=(z0c.1 hx).1; omega
      obtain⟨v,hv,hd⟩:=(hz2 ρ).get hx
      refine⟨v,?_,hd⟩
      have hlt:j * te.size + k < n * te.size:=by
       have:(j + 1) * te.size≤n * te.size:=z1w _ hj
       rw[z3f] at this
       omega
      have hzs:z.cells.size=te.size:=by simpa using hzl
      have hmod:(j * te.size + k) % te.size=k:=by rw[Nat.mul_comm,Nat.mul_add_mod]; exact Nat.mod_eq_of_lt hkk
      simp only[madeCells,z3h,z3o,Array.toList_range,List.getElem?_range hlt,z2l,hzs,hmod]
      rw[getElem!_pos z.cells _ (by omega)]
      have:z.cells[k]?=some v:=by simpa using hv
      rw[z2m (by omega)] at this
      simpa using this
     have plain:OpTo P a o W (StepPost ρ W m.length (.sl m.length n) [.oarr ti.elem n (a38 te.zero)]):=by
      refine fin (n:=n) hr hown hg (by rw[b1h,k3]) fun j hj k col hcol=>?_
      rw[b6k,z0h] at hcol
      obtain⟨x,hx,rfl⟩:=hcol
      obtain⟨v,hv,hd⟩:=hcl j hj k x hx
      exact⟨v,hv,b9z hd⟩
     show OpTo P a o W (StepPost ρ W m.length (.sl m.length n) [b6x ti.elem te n])
     unfold b6x
     split
     ·rename_i hz0
      cases hlen0:Nat.blt 0 te.len
      ·exact plain
      ·rw[z0u] at hlen0
       have hs1:te.size=1:=by rw[← k3,hz0]; rfl
       have hcpl:(a2f te.len (fun(_ _:Nat)=>(0:Int))).length=te.len:=by
        generalize te.len=q
        induction q with
        | zero=>rfl
        | succ q ih=>simp[a2f,ih]
       rw[hs1] at hown hcl
       have hnil:∀ j,j < n→(madeCells z.cells (n * 1)).toList[j]?=some (Value.slice none 0 0):=fun j hj=>by
        obtain⟨v,hv,hd⟩:=hcl j hj 0 .nilsl (by rw[hz0]; rfl)
        cases hd
        simpa using hv
       refine OpTo.value (v:=.slice (some ⟨W.heap.size,0,none⟩) n n) (W':=W') (by simp only[execOp,ho,ex,ey,z1a,hr,z0o]; rfl) (StepPost.one (x:=(some ⟨W.heap.size,0,none⟩,n)) ⟨hg.os,hg.tape,hg.output,hg.size,fun k hk=>hg.block k hk (by simp)⟩ (.sl (Env.with_same ρ _ _) (fun _=>by simp)) ⟨_,n,_,Env.with_same ρ _ _,hown,fun a ha hs=>?_,by rw[hcpl]; exact hlen0,fun j hj _=>?_,fun j j' B l d B' l' d' hj hj' _ _ h1 h2=>?_,fun j q hj _=>(by cases hj)⟩ (fun a ha _=>?_))
       ·simp only[z0a] at ha
        subst ha
        exact absurd (hS _ hs) (z1k _)
       ·exact⟨none,0,[],hnil j hj,⟨by simp,.inl ⟨rfl,rfl⟩⟩,fun b hb=>(by cases hb),fun i hi=>absurd hi (z1l _)⟩
       ·rw[hnil j hj] at h1
        simp at h1
       ·simp only[z0a] at ha
        subst ha
        exact z0q _
     ·exact plain
    split at h
    ·rename_i kx
     simp only[q7,b59,ofV,b43,z0f,z0a,SV.i.injEq] at hx
     obtain⟨rfl,hl0⟩:=hx
     simp only[z0a] at h
     subst h
     have p1:0≤d:=hp _ (by simp)
     have p3:(te.bytes:Int) * d≤281474976710656:=hp _ (by simp)
     have p4:d≤9223372036854775807:=hp _ (by simp)
     obtain⟨n,rfl⟩:=z2z p1
     have hb:i.bytes * n≤281474976710656:=cst p3
     obtain⟨W',hr,hown,hg⟩:=run_make_own (P:=P) W 0 t ti.elem i z te.size hu hi hz1 hsz kx kd n hb (by unfold maxLen; omega) (z2j _)
     exact fin (n:=0) (by rw[← hl0]; exact hr) hown hg (hcp _) (fun j hj=>absurd hj (by omega))
    ·exact two h
  ·cases h
 ·cases h
theorem a62 {a b:Option IntKind}:oEq a b=true↔a=b:=by
 cases a <;> cases b <;> simp[oEq,u4]
theorem b20 {ρ:Env} (k:Option IntKind) (v:Int):Den ρ (svV k v) (a5f k v):=by
 cases k
 ·exact .b _
 ·exact .i _ _
theorem b62 {ρ:Env} {k:Option IntKind} {x:SV} {v:Int} {u:Value} (h:b9x k x=some v) (hd:Den ρ x u):u=a5f k v:=by
 cases k with
 | some k =>
  cases x <;> simp only[b9x,reduceCtorEq] at h
  rename_i q v'
  cases hk:kEq k q <;> rw[hk] at h
  ·cases h
  ·simp only[z0f,z0a] at h
   subst h
   obtain rfl:=u4.1 hk
   exact hd.i_inv
 | none =>
  have h2:∃ b,bOf x=some b∧v=(bif b then 1 else 0):=by
   simp only[b9x] at h
   split at h
   ·rename_i b hb; cases h; exact⟨b,hb,rfl⟩
   ·cases h
  obtain⟨b,hb,rfl⟩:=h2
  have:=hd.bOf hb
  subst this
  cases b <;> rfl
def pairTy (P:Program) (t:Nat):Prop:=∃ e,P.underlying t=some (.array 2 e)∧P.underlying e=some (.int .i64)∧P.cellsOf e=1∧∃ i,P.info? e=some i∧i.size=1
def u7 (a b:Int):Value:=.agg #[.int .i64 a,.int .i64 b]
theorem c14 {t:Nat} (h:pairTy P t) (em:Bool) (a b:Int):(Instr.checkKey em 10000 t (u7 a b)).run P W=.ok () W:=by
 obtain⟨e,h1,h2,h3,i,h4,h5⟩:=h
 have hag:∀ w,(isAgg e).run P w=.ok false w:=fun w=>by simp[isAgg,run_underlying h2]
 have hk:∀ n:Int,(Instr.checkKey em 9999 e (.int .i64 n)).run P W=.ok () W:=fun n=>z2n (d:=.int .i64) (k:=.int .i64 n) h2 rfl em 9998
 have hs:∀ w,(sizeOf e).run P w=.ok 1 w:=fun w=>by rw[← h3]; exact run_sizeOf w h4
 unfold Instr.checkKey u7
 simp only[z1a,run_underlying h1,z0o]
 simp only[Std.Legacy.Range.forIn_eq_forIn_range',Std.Legacy.Range.size,Nat.sub_zero,Nat.add_one_sub_one,Nat.div_one,List.range'_succ,List.range'_zero]
 simp[part,hag,hs,hk]
theorem c9y {t:Nat} (h:pairTy P t) (a b c d:Int):(Op.equal t (u7 a b) (u7 c d)).run P W=.ok (a == c && b == d) W:=by
 obtain⟨e,h1,h2,h3,i,h4,h5⟩:=h
 have hag:∀ w,(isAgg e).run P w=.ok false w:=fun w=>by simp[isAgg,run_underlying h2]
 unfold Op.equal u7
 rw[show Op.maxDepth=9999 + 1 from rfl,run_equalIn_array W 9999 _ _ h1 h4,h3]
 simp only[List.range_eq_range',List.range'_succ,List.range'_zero]
 simp[Op.eqItems,part,hag,run_equalIn_int W 9998 e _ _ _ _ h2]
 by_cases e1:a=c <;> by_cases e2:b=d <;> simp[e1,e2]
structure PairTy (P:Program) (t:Nat):Prop where
 chk:∀(em:Bool) (a b:Int) (W:World),(Instr.checkKey em 10000 t (u7 a b)).run P W=.ok () W
 eq:∀(a b c d:Int) (W:World),(Op.equal t (u7 a b) (u7 c d)).run P W=.ok (a == c && b == d) W
 und:∃ d,P.underlying t=some d
theorem pairTy.to {t:Nat} (h:pairTy P t):PairTy P t:=⟨fun em a b W=>c14 h em a b,fun a b c d W=>c9y h a b c d,let ⟨_,h1,_⟩:=h; ⟨_,h1⟩⟩
theorem b4q {t:Nat} {ti:TI} (ht:a0t P t ti=true) (h1:ti.kind=1) (hk:ti.eqk=some [some .i64,some .i64]):PairTy P t:=by
 obtain⟨fs,hu,_⟩:=a36 ht h1
 refine⟨fun em a b W=>?_,fun a b c d W=>?_,⟨_,hu⟩⟩
 ·obtain⟨_,⟨fs',hu',hs,hf⟩ | ⟨n,e,hu',_⟩⟩:=a9q ht hk
  ·rw[hu] at hu'
   simp only[z0a,TypeDesc.struct.injEq] at hu'
   subst hu'
   obtain⟨l⟩:=fs
   match l,hf with
   | [f1,f2],hf =>
    simp only[z7,z0d,z1p] at hf
    obtain⟨⟨⟨a1,a2⟩,a3⟩,⟨⟨b1,b2⟩,b3⟩,_⟩:=hf
    have a2:=z0b a2
    have b2:=z0b b2
    have key:∀ {f:Nat} (hp:a56 P f (some .i64)=true) (n:Int),(Instr.checkKey em 9999 f (.int .i64 n)).run P W=.ok () W:=fun {f} hp n=>by
     unfold a56 at hp
     rw[z0d] at hp
     have hp:=hp.2
     cases hu:P.underlying f with
     | none=>simp[hu] at hp
     | some d =>
      rw[hu] at hp
      cases d <;> simp at hp
      rename_i kk
      obtain rfl:=u4.1 hp
      exact z2n (d:=.int .i64) (k:=.int .i64 n) hu rfl em 9998
    unfold Instr.checkKey u7
    simp only[z1a,run_underlying hu,z0o]
    simp[a1,b1,a2,b2,a3d a3 #[Value.int .i64 a,.int .i64 b] 0 rfl,a3d b3 #[Value.int .i64 a,.int .i64 b] 1 rfl,key a3,key b3]
   | [],hf=>simp[z7] at hf
   | [_],hf=>simp[z7] at hf
   | _ :: _ :: _ :: _,hf=>simp[z7] at hf
  ·rw[hu] at hu'; cases hu'
 ·have hx:∀ p q:Int,DenL (⟨fun _=>none,fun _=>False,fun _=>False,fun _ _=>False⟩:Env) [.i .i64 p,.i .i64 q] [.int .i64 p,.int .i64 q]:=fun p q=>DenL.cons (.i _ _) (DenL.cons (.i _ _) (DenL.nil _))
  have:=c0d (P:=P) (xs:=[.i .i64 a,.i .i64 b]) (ys:=[.i .i64 c,.i .i64 d]) (b:=(a == c && b == d)) ht hk rfl (hx a b) (hx c d) W
  exact this
theorem c4f {t:Nat} (h:PairTy P t) (a b:Int):∀(es:List MapEntry) (i:Nat),(∀ x∈es,∃ n m,x.key=u7 n m) →
  ((Instr.findAsking t (u7 a b) es i).run P W=.ok none W∧∀ x∈es,x.key≠u7 a b)∨∃ j e,(Instr.findAsking t (u7 a b) es i).run P W=.ok (some (i + j,e.val)) W∧es[j]?=some e∧e.key=u7 a b:=by
 intro es
 induction es with
 | nil=>intro i _; exact .inl ⟨by simp[Instr.findAsking],by simp⟩
 | cons x r ih =>
  intro i hes
  obtain⟨n,m,hx⟩:=hes x (by simp)
  by_cases e:n=a∧m=b
  ·obtain⟨rfl,rfl⟩:=e
   exact .inr ⟨0,x,by simp[Instr.findAsking,hx,h.eq],rfl,hx⟩
  ·have hb:(a == n && b == m)=false:=by
    cases hh:(a == n && b == m)
    ·rfl
    ·simp at hh; exact absurd ⟨hh.1.symm,hh.2.symm⟩ e
   have hne:x.key≠u7 a b:=fun e2=>by
    rw[hx] at e2
    simp[u7] at e2
    exact e e2
   rcases ih (i + 1) (fun y hy=>hes y (by simp[hy])) with⟨h1,h2⟩ | ⟨j,e',h1,h2,h3⟩
   ·exact .inl ⟨by simp[Instr.findAsking,hx,h.eq,hb,h1],fun y hy=>by rcases z0s.1 hy with rfl | hy; exact hne; exact h2 y hy⟩
   ·exact .inr ⟨j + 1,e',by simp[Instr.findAsking,hx,h.eq,hb,h1]; omega,by simpa using h2,h3⟩
theorem a9i {t:Nat} (h:PairTy P t) (a b:Int) (es:List MapEntry) (hes:∀ x∈es,∃ n m,x.key=u7 n m) :
  ((Instr.findKey t (u7 a b) es).run P W=.ok none W∧∀ x∈es,x.key≠u7 a b)∨∃ j e,(Instr.findKey t (u7 a b) es).run P W=.ok (some (j,e.val)) W∧es[j]?=some e∧e.key=u7 a b:=by
 obtain⟨d,h1⟩:=h.und
 cases es with
 | nil=>exact .inl ⟨by simp[Instr.findKey,run_underlying h1,Instr.findNow],by simp⟩
 | cons x r =>
  have:Instr.findNow d (u7 a b) (x :: r) 0=none:=by
   obtain⟨n,m,hx⟩:=hes x (by simp)
   simp[Instr.findNow,hx,Instr.sameNow,u7]
  simp only[Instr.findKey,z1a,run_underlying h1,z0o,this]
  rcases c4f (W:=W) h a b (x :: r) 0 hes with⟨e1,e2⟩ | ⟨j,e',e1,e2,e3⟩
  ·exact .inl ⟨e1,e2⟩
  ·exact .inr ⟨j,e',by simpa using e1,e2,e3⟩
theorem b3l (a b:Int):(Instr.keyThatStays (u7 a b) (u7 a b)).run P W=.ok (u7 a b) W:=by
 simp[Instr.keyThatStays,Instr.sameBits,u7]
theorem KeyIs.ofInt {k:IntKind} (hk:kEq k .i8=false) (n:Int):KeyIs k n (.int k n):=by
 cases k <;> first | rfl | (simp[kEq] at hk)
theorem KeyIs.ofPair (a b:Int):KeyIs .i8 (pk a b) (u7 a b):=⟨a,b,rfl,rfl⟩
def KTy (P:Program) (kt:Nat) (k:IntKind):Prop:=match k with
 | .i8=>PairTy P kt
 | k=>P.underlying kt=some (.int k)
theorem KTy.chk {kt:Nat} {k:IntKind} {n:Int} {v:Value} (h:KTy P kt k) (hv:KeyIs k n v) (em:Bool):(Instr.checkKey em 10000 kt v).run P W=.ok () W:=by
 cases k <;> simp only[KTy,KeyIs] at h hv
 case i8=>obtain⟨a,b,_,rfl⟩:=hv; exact h.chk em a b W
 case i16=>subst hv; exact z2n (d:=.int .i16) (k:=.int .i16 n) h rfl em 9999
 case i32=>subst hv; exact z2n (d:=.int .i32) (k:=.int .i32 n) h rfl em 9999
 case i64=>subst hv; exact z2n (d:=.int .i64) (k:=.int .i64 n) h rfl em 9999
 case u8=>subst hv; exact z2n (d:=.int .u8) (k:=.int .u8 n) h rfl em 9999
 case u16=>subst hv; exact z2n (d:=.int .u16) (k:=.int .u16 n) h rfl em 9999
 case u32=>subst hv; exact z2n (d:=.int .u32) (k:=.int .u32 n) h rfl em 9999
 case u64=>subst hv; exact z2n (d:=.int .u64) (k:=.int .u64 n) h rfl em 9999
theorem KTy.stays {k:IntKind} {n:Int} {v:Value} (hv:KeyIs k n v):(Instr.keyThatStays v v).run P W=.ok v W:=by
 cases k <;> simp only[KeyIs] at hv
 case i8=>obtain⟨a,b,_,rfl⟩:=hv; exact b3l a b
 case i16=>subst hv; exact z2p (d:=.int .i16) (k:=.int .i16 n) rfl
 case i32=>subst hv; exact z2p (d:=.int .i32) (k:=.int .i32 n) rfl
 case i64=>subst hv; exact z2p (d:=.int .i64) (k:=.int .i64 n) rfl
 case u8=>subst hv; exact z2p (d:=.int .u8) (k:=.int .u8 n) rfl
 case u16=>subst hv; exact z2p (d:=.int .u16) (k:=.int .u16 n) rfl
 case u32=>subst hv; exact z2p (d:=.int .u32) (k:=.int .u32 n) rfl
 case u64=>subst hv; exact z2p (d:=.int .u64) (k:=.int .u64 n) rfl
theorem KTy.find {kt:Nat} {k:IntKind} {n:Int} {v:Value} (h:KTy P kt k) (hv:KeyIs k n v) (es:List MapEntry) (hes:∀ x∈es,∃ n,KeyIs k n x.key) :
  ((Instr.findKey kt v es).run P W=.ok none W∧∀ x∈es,x.key≠v)∨∃ j e,(Instr.findKey kt v es).run P W=.ok (some (j,e.val)) W∧es[j]?=some e∧e.key=v:=by
 have int:∀ q:IntKind,P.underlying kt=some (.int q)→v=.int q n→(∀ x∈es,∃ n,x.key=.int q n)→((Instr.findKey kt v es).run P W=.ok none W∧∀ x∈es,x.key≠v)∨∃ j e,(Instr.findKey kt v es).run P W=.ok (some (j,e.val)) W∧es[j]?=some e∧e.key=v:=fun q h hv hes=>by
  subst hv
  rcases MapKept.findNow_spec (d:=.int q) (k:=.int q n) rfl es 0 (fun x hx=>by obtain⟨n',e⟩:=hes x hx; rw[e]; rfl) with⟨e1,e2⟩ | ⟨j,e,e1,e2,e3⟩
  ·exact .inl ⟨MapKept.run_findKey h e1,e2⟩
  ·exact .inr ⟨j,e,MapKept.run_findKey h (by simpa using e1),e2,e3⟩
 cases k <;> simp only[KTy,KeyIs] at h hv hes
 case i8 =>
  obtain⟨a,b,_,rfl⟩:=hv
  exact a9i h a b es fun x hx=>by obtain⟨_,a,b,_,e⟩:=hes x hx; exact⟨a,b,e⟩
 all_goals exact int _ h hv hes
theorem KTy.ofInt {kt:Nat} {k:IntKind} (hk:kEq k .i8=false) (h:P.underlying kt=some (.int k)):KTy P kt k:=by
 cases k <;> first | exact h | (simp[kEq] at hk)
theorem a3j {t:Nat} {k:IntKind} {k':Option IntKind} (hT:TabOk P T) (h:a34 T t=some (k,k')):∃ kt et,P.underlying t=some (.map kt et)∧KTy P kt k∧∀ W:World,(zeroValue et).run P W=.ok (a5f k' 0) W:=by
 unfold a34 at h
 split at h
 ·rename_i ti hti
  cases h4:Nat.beq ti.kind 4
  ·simp[h4] at h
  ·simp only[h4,z0f] at h
   split at h
   ·rename_i tk tv hk hv
    split at h
    ·rename_i q q' z e1 e2 e3
     cases hc:(Nat.beq tk.kind 0 && Nat.beq tv.kind 0 && kEq z q' && !(kEq q .i8))
     ·simp[hc] at h
     ·simp only[hc,z0f,z0a,z0g] at h
      obtain⟨rfl,rfl⟩:=h
      simp only[z0d] at hc
      obtain⟨⟨⟨hc1,hc2⟩,hc3⟩,hc4⟩:=hc
      obtain rfl:=u4.1 hc3
      have hm:=a5q (hT.types t ti hti) (z0b h4)
      exact⟨ti.elem,ti.len,hm,KTy.ofInt (by simpa using hc4) (b49 (hT.types _ tk hk) e1 (z0b hc1)),fun W=>a6w (hT.ints _ tv hv) e2 W⟩
    ·rename_i q e1 e2 e3
     cases hc:(Nat.beq tk.kind 0 && Nat.beq tv.kind 5 && !(kEq q .i8))
     ·simp[hc] at h
     ·simp only[hc,z0f,z0a,z0g] at h
      obtain⟨rfl,rfl⟩:=h
      simp only[z0d] at hc
      have hm:=a5q (hT.types t ti hti) (z0b h4)
      exact⟨ti.elem,ti.len,hm,KTy.ofInt (by simpa using hc.2) (b49 (hT.types _ tk hk) e1 (z0b hc.1.1)),fun W=>b12 (hT.ints _ tv hv) (z0b hc.1.2) W⟩
    ·rename_i q' z e1 e2 e3
     split at h
     ·rename_i e4
      cases hc:(Nat.beq tk.kind 1 && Nat.beq tv.kind 0 && kEq z q')
      ·simp[hc] at h
      ·simp only[hc,z0f,z0a,z0g] at h
       obtain⟨rfl,rfl⟩:=h
       simp only[z0d] at hc
       obtain⟨⟨hc1,hc2⟩,hc3⟩:=hc
       obtain rfl:=u4.1 hc3
       have hm:=a5q (hT.types t ti hti) (z0b h4)
       exact⟨ti.elem,ti.len,hm,b4q (hT.types _ tk hk) (z0b hc1) e4,fun W=>a6w (hT.ints _ tv hv) e2 W⟩
     ·cases h
    ·cases h
   ·cases h
 ·cases h
theorem b5g {es:Array MapEntry} {clock:Nat} {k:IntKind} {k':Option IntKind} {f:Int→Option Int} {kt:Nat} {u:Value} (hk:KTy P kt k) (h:b28 es clock k k' f) {n:Int} (hu:KeyIs k n u) :
  ((Instr.findKey kt u es.toList).run P W=.ok none W∧f n=none∧∀ x∈es.toList,x.key≠u)∨∃ j e v,(Instr.findKey kt u es.toList).run P W=.ok (some (j,a5f k' v)) W∧es[j]?=some e∧e.key=u∧e.val=a5f k' v∧f n=some v:=by
 obtain⟨hs,h1,h2⟩:=h
 rcases hk.find (W:=W) hu es.toList (fun x hx=>by obtain⟨n',v,e,_⟩:=h1 x hx; exact⟨n',e⟩) with⟨e1,e2⟩ | ⟨j,e,e1,e2,e3⟩
 ·refine .inl ⟨e1,?_,e2⟩
  cases hf:f n with
  | none=>rfl
  | some v =>
   obtain⟨x,hx,hk⟩:=h2 n v hf
   exact absurd (hk.val hu) (e2 x hx)
 ·obtain⟨n',v,hk,hv,hf⟩:=h1 e (z2o e2)
  rw[e3] at hk
  obtain rfl:=hk.num hu
  rw[hv] at e1
  exact .inr ⟨j,e,v,e1,by simpa using e2,e3,hv,hf⟩
theorem a60 {t:Nat} (hT:TabOk P T) (h:a2c T t=true):∃ kt et,P.underlying t=some (.map kt et)∧PairTy P kt∧∀ W:World,(zeroValue et).run P W=.ok (.bool false) W:=by
 unfold a2c at h
 split at h
 ·rename_i ti hti
  cases h4:Nat.beq ti.kind 4
  ·simp[h4] at h
  ·simp only[h4,z0f] at h
   split at h
   ·rename_i tk tv hk hv
    split at h
    ·rename_i e1 e2
     simp only[z0d] at h
     obtain⟨⟨c1,c2⟩,c3⟩:=h
     have c1:=z0b c1
     have c2:=z0b c2
     have hm:=a5q (hT.types t ti hti) (z0b h4)
     refine⟨ti.elem,ti.len,hm,pairTy.to ?_,fun W=>?_⟩
     ·have ht:=hT.types _ tk hk
      have ha:=a3u ht c1
      rw[c2] at ha
      obtain⟨_,⟨fs,hu,_⟩ | ⟨n,e,hu,hp,_⟩⟩:=a9q ht e1
      ·rw[ha] at hu; cases hu
      ·rw[ha] at hu
       simp only[z0a,TypeDesc.array.injEq] at hu
       obtain⟨_,rfl⟩:=hu
       simp only[a2j,z0d] at hp
       have hp:=hp.1
       unfold a56 at hp
       rw[z0d] at hp
       have hsz:=z0e hp.1
       cases hi:P.info? tk.elem with
       | none=>simp[hi] at hsz
       | some i =>
        simp[hi] at hsz
        refine⟨_,ha,?_,by simp[Program.cellsOf,hi,hsz],i,hi,hsz⟩
        have hp2:=hp.2
        cases hue:P.underlying tk.elem with
        | none=>simp[hue] at hp2
        | some d =>
         rw[hue] at hp2
         cases d <;> simp at hp2
         rename_i kk
         obtain rfl:=u4.1 hp2
         rfl
     ·exact b12 (hT.ints _ tv hv) (z0b c3) W
    ·cases h
   ·cases h
 ·cases h
theorem a65 {x:SV} {v:Value} {p q:Int} (h:b76 x=some (p,q)) (hd:Den ρ x v):v=u7 p q:=by
 unfold b76 at h
 split at h
 ·simp only[z0a,z0g] at h
  obtain⟨rfl,rfl⟩:=h
  obtain⟨vs,rfl,hv⟩:=hd.agg_inv
  obtain⟨a,l,rfl,h1,h2⟩:=hv.inv
  obtain⟨b,l2,rfl,h3,h4⟩:=h2.inv
  obtain rfl:=h4.inv_nil
  rw[h1.i_inv,h3.i_inv]
  rfl
 ·cases h
theorem c1j {t:Nat} {ar:AR} {oty:Nat} (hS:∀ g,ρ.S g→g < W.heap.size) (ho:o.op=.makeMap t none) (h:q8 T sl m c oty (.makeMap t none)=some ar) :
  OpTo P a o W (StepPost ρ W m.length ar.sv ar.new):=by
 simp only[q8] at h
 split at h
 ·rename_i k k' hk
  simp only[z0a] at h
  subst h
  have hrun:(Instr.makeMap t none).run P W=.ok (.map (some W.heap.size)) (W.alloc (.map #[] 0)):=rfl
  refine OpTo.value (v:=.map (some W.heap.size)) (W':=W.alloc (.map #[] 0)) (by simp only[execOp,ho,z3l,z1a,hrun,z0o]; rfl) (StepPost.one (x:=(some ⟨W.heap.size,0,none⟩,0)) ((Below.refl _ _).alloc (z0q _) _) (.mp (Env.with_same _ _ _)) ⟨W.heap.size,#[],0,0,Env.with_same _ _ _,fun hs=>absurd (hS _ hs) (z1k _),(MapKept.heap_alloc W _).1,MapKept.stamped_empty 0,fun x hx=>by simp at hx,fun n v h=>by cases h⟩ (fun a ha _=>?_))
  simp only[z0a] at ha
  subst ha
  exact z0q _
 ·cases hmp:a2c T t
  ·rw[hmp] at h; cases h
  ·simp only[hmp,z0f,z0a] at h
   subst h
   have hrun:(Instr.makeMap t none).run P W=.ok (.map (some W.heap.size)) (W.alloc (.map #[] 0)):=rfl
   refine OpTo.value (v:=.map (some W.heap.size)) (W':=W.alloc (.map #[] 0)) (by simp only[execOp,ho,z3l,z1a,hrun,z0o]; rfl) (StepPost.one (x:=(some ⟨W.heap.size,0,none⟩,0)) ((Below.refl _ _).alloc (z0q _) _) (.mp (Env.with_same _ _ _)) ⟨W.heap.size,#[],0,0,Env.with_same _ _ _,fun hs=>absurd (hS _ hs) (z1k _),(MapKept.heap_alloc W _).1,MapKept.stamped_empty 0,fun x hx=>by simp at hx,fun n v h=>by cases h⟩ (fun a ha _=>?_))
   simp only[z0a] at ha
   subst ha
   exact z0q _
theorem Den.mp_inv {ρ:Env} {r:Nat} {v:Value} (h:Den ρ (.mp r) v):∃ g c,ρ r=some (some ⟨g,0,none⟩,c)∧v=.map (some g):=by cases h with | mp h=>exact⟨_,_,h,rfl⟩
theorem b5h {es:Array MapEntry} {clock:Nat} {f:Int→Int→Bool} {kt:Nat} (hk:PairTy P kt) (h:a85 es clock f) (n m:Int) :
  ((Instr.findKey kt (u7 n m) es.toList).run P W=.ok none W∧f n m=false∧∀ x∈es.toList,x.key≠u7 n m)∨∃ j e,(Instr.findKey kt (u7 n m) es.toList).run P W=.ok (some (j,.bool true)) W∧es[j]?=some e∧e.key=u7 n m∧e.val=.bool true∧f n m=true:=by
 obtain⟨hs,h1,h2⟩:=h
 rcases a9i (W:=W) hk n m es.toList (fun x hx=>by obtain⟨n',m',e,_⟩:=h1 x hx; exact⟨n',m',e⟩) with⟨e1,e2⟩ | ⟨j,e,e1,e2,e3⟩
 ·refine .inl ⟨e1,?_,e2⟩
  cases hf:f n m with
  | false=>rfl
  | true =>
   obtain⟨x,hx,hkx⟩:=h2 n m hf
   exact absurd hkx (e2 x hx)
 ·obtain⟨n',m',hkx,hv,hf⟩:=h1 e (z2o e2)
  rw[e3] at hkx
  simp[u7] at hkx
  obtain⟨rfl,rfl⟩:=hkx
  rw[hv] at e1
  exact .inr ⟨j,e,e1,by simpa using e2,e3,hv,hf⟩
theorem b3b {t kt et g clock:Nat} {es:Array MapEntry} {k:IntKind} {k':Option IntKind} {f:Int→Option Int} {n:Int} {u:Value} (ok:Bool) (hmu:P.underlying t=some (.map kt et)) (hku:KTy P kt k) (hz:∀ W:World,(zeroValue et).run P W=.ok (a5f k' 0) W) (h3:W.heap[g]?=some (.map es clock)) (h4:b28 es clock k k' f) (hu:KeyIs k n u) :
  (Instr.lookup t (.map (some g)) u ok).run P W=.ok (if ok then .tuple #[a5f k' (a10 (f n)),.bool (isS (f n))] else a5f k' (a10 (f n))) W:=by
 rcases b5g (W:=W) hku h4 hu with⟨f1,f2,_⟩ | ⟨j,e,v,f1,_,_,_,f2⟩
 ·simp[Instr.lookup,run_underlying hmu,z2d h3,hku.chk hu,f1,hz,f2,a10,isS]
 ·simp[Instr.lookup,run_underlying hmu,z2d h3,hku.chk hu,f1,f2,a10,isS]
theorem c4v {t:Nat} {x y:Operand} {ok:Bool} {ar:AR} {oty:Nat} (hT:TabOk P T) (ho:o.op=.lookup t x y ok) (hblk:∀ r k,m[r]?=some k→ρ r≠none→BR ρ W r k) (hG:GlobOk T ρ) (hs:OpsOk ρ sl a [x,y]) (hc:sat a c) (h:q8 T sl m c oty (.lookup t x y ok)=some ar) :
  OpTo P a o W (StepPost ρ W m.length ar.sv ar.new):=by
 simp only[q8] at h
 split at h
 ·rename_i r q n hx hy
  split at h
  ·rename_i k k' k2 k2' f hk hm
   cases hc2:(kEq k k2 && oEq k' k2' && kEq k q && !(kEq k .i8))
   ·rw[hc2] at h; cases h
   ·simp only[hc2,z0f,z0a] at h
    subst h
    simp only[z0d,z0x] at hc2
    obtain⟨⟨⟨e1,e2⟩,e3⟩,e4⟩:=hc2
    obtain rfl:=u4.1 e1
    obtain rfl:=a62.1 e2
    obtain rfl:=u4.1 e3
    obtain⟨kt,et,hmu,hku,hz⟩:=a3j hT hk
    have ey:=(f7 hG hy (hs.sub (by simp)) hc).i_inv
    obtain⟨g,c',hρ,ex⟩:=(f7 hG hx (hs.sub (by simp)) hc).mp_inv
    obtain⟨g',es,clock,c'',h1,_,h3,h4⟩:=hblk r _ (p9 hm) (by rw[hρ]; simp)
    rw[hρ] at h1
    simp only[z0a,z0g,z2a,and_true] at h1
    obtain⟨rfl,rfl⟩:=h1
    have hrun:=b3b (P:=P) (W:=W) ok hmu hku hz h3 h4 (KeyIs.ofInt e4 n)
    have hex:∀ {w:Value},(Instr.lookup t (.map (some g)) (.int k n) ok).run P W=.ok w W→(execOp a.eval o).run P W=.ok (.value w) W:=fun {w} hr=>by
     simp only[execOp,ho,ex,ey,z1a,hr,z0o]
     rfl
    cases ok
    ·exact OpTo.pure (hex hrun) (b20 _ _)
    ·have:=DenL.cons (ρ:=ρ) (b20 k' (a10 (f n))) (DenL.cons (.b (isS (f n))) (DenL.nil ρ))
     exact OpTo.pure (hex hrun) (.tup this.1 this.2)
  ·cases h
 ·rename_i r v _ hx hy
  split at h
  ·rename_i p q k2 k2' f hpq hm
   split at h
   ·rename_i k k' hk
    cases hc2:(kEq k k2 && oEq k' k2' && kEq k .i8)
    ·rw[hc2] at h; cases h
    ·simp only[hc2,z0f,z0a] at h
     subst h
     simp only[z0d] at hc2
     obtain⟨⟨e1,e2⟩,e3⟩:=hc2
     obtain rfl:=u4.1 e1
     obtain rfl:=a62.1 e2
     obtain rfl:=u4.1 e3
     obtain⟨kt,et,hmu,hku,hz⟩:=a3j hT hk
     have ey:=a65 hpq (f7 hG hy (hs.sub (by simp)) hc)
     obtain⟨g,c',hρ,ex⟩:=(f7 hG hx (hs.sub (by simp)) hc).mp_inv
     obtain⟨g',es,clock,c'',h1,_,h3,h4⟩:=hblk r _ (p9 hm) (by rw[hρ]; simp)
     rw[hρ] at h1
     simp only[z0a,z0g,z2a,and_true] at h1
     obtain⟨rfl,rfl⟩:=h1
     have hrun:=b3b (P:=P) (W:=W) ok hmu hku hz h3 h4 (KeyIs.ofPair p q)
     have hex:∀ {w:Value},(Instr.lookup t (.map (some g)) (u7 p q) ok).run P W=.ok w W→(execOp a.eval o).run P W=.ok (.value w) W:=fun {w} hr=>by
      simp only[execOp,ho,ex,ey,z1a,hr,z0o]
      rfl
     cases ok
     ·exact OpTo.pure (hex hrun) (b20 _ _)
     ·have:=DenL.cons (ρ:=ρ) (b20 k' (a10 (f (pk p q)))) (DenL.cons (.b (isS (f (pk p q)))) (DenL.nil ρ))
      exact OpTo.pure (hex hrun) (.tup this.1 this.2)
   ·cases h
  ·rename_i p q k hne hpq hm
   split at h
   ·rename_i f hf
    cases hc2:(a2c T t && !ok)
    ·rw[hc2] at h; cases h
    ·simp only[hc2,z0f,z0a] at h
     subst h
     simp only[z0d,z0x] at hc2
     obtain⟨e1,rfl⟩:=hc2
     obtain⟨kt,et,hmu,hku,hz⟩:=a60 hT e1
     have ey:=a65 hpq (f7 hG hy (hs.sub (by simp)) hc)
     obtain⟨g,c',hρ,ex⟩:=(f7 hG hx (hs.sub (by simp)) hc).mp_inv
     obtain⟨es,clock,h3,h4⟩:∃ es clock,W.heap[g]?=some (.map es clock)∧a85 es clock f:=by
      have hb:=hblk r _ (p9 hm) (by rw[hρ]; simp)
      cases k <;> simp only[a9h] at hf <;> first | cases hf | skip
      ·obtain⟨g',es,clock,c'',h1,_,h3,h4⟩:=hb
       rw[hρ] at h1
       simp only[z0a,z0g,z2a,and_true] at h1
       obtain⟨rfl,rfl⟩:=h1
       exact⟨es,clock,h3,h4⟩
      ·obtain⟨g',es,clock,c'',h1,_,h3,h4⟩:=hb
       rw[hρ] at h1
       simp only[z0a,z0g,z2a,and_true] at h1
       obtain⟨rfl,rfl⟩:=h1
       exact⟨es,clock,h3,h4⟩
     have hrun:(Instr.lookup t (.map (some g)) (u7 p q) false).run P W=.ok (.bool (f p q)) W:=by
      rcases b5h (W:=W) hku h4 p q with⟨f1,f2,_⟩ | ⟨j,e,f1,_,_,_,f2⟩
      ·simp[Instr.lookup,run_underlying hmu,z2d h3,hku.chk,f1,hz,f2]
      ·simp[Instr.lookup,run_underlying hmu,z2d h3,hku.chk,f1,f2]
     refine OpTo.pure (v:=.bool (f p q)) ?_ (.b _)
     simp only[execOp,ho,ex,ey,z1a,hrun,z0o]
     rfl
   ·cases h
  ·cases h
 ·cases h
theorem b9d {f:Nat} {fs xs:Array Operand} {ar:AR} {oty:Nat} (ho:o.op=.makeFunc (.func f) fs xs) (hG:GlobOk T ρ) (hs:OpsOk ρ sl a xs.toList) (hc:sat a c) (h:q8 T sl m c oty (.makeFunc (.func f) fs xs)=some ar) :
  OpTo P a o W (StepPost ρ W m.length ar.sv ar.new):=by
 simp only[q8] at h
 split at h
 ·rename_i vs hf hvs
  simp only[z0a] at h
  subst h
  have hd:=a4k hG hvs hs hc
  refine OpTo.pure (v:=.func (.func f) #[] (xs.toList.map a.eval).toArray) ?_ (.fn hd.1 hd.2)
  have h1:fs = #[]:=by apply Array.ext'; simpa using hf
  have h2:xs.map a.eval=(xs.toList.map a.eval).toArray:=by apply Array.ext'; simp
  simp[execOp,ho,Instr.makeFunc,h1,← h2]
 ·cases h
theorem c7n {x:Operand} {ar:AR} {oty:Nat} (ho:o.op=.entry x) (hblk:∀ r k,m[r]?=some k→ρ r≠none→BR ρ W r k) (hG:GlobOk T ρ) (hs:OpsOk ρ sl a [x]) (hc:sat a c) (h:q8 T sl m c oty (.entry x)=some ar) :
  OpTo P a o W (StepPost ρ W m.length ar.sv ar.new):=by
 simp only[q8] at h
 split at h
 ·rename_i r hx
  split at h
  ·rename_i left p q hm
   simp only[z0a] at h
   subst h
   obtain⟨b,k',hb,ex⟩:=(f7 hG hx (hs.sub (by simp)) hc).ptr_inv
   obtain⟨g,bm,since,seen,c0,es,clock,c',h1,_,h3,_,h5,h6,h7⟩:=hblk r _ (p9 hm) (by rw[hb]; simp)
   rw[hb] at h1
   simp only[z0a,z0g] at h1
   obtain⟨rfl,_⟩:=h1
   obtain⟨rfl,e,he,hs',hke,hve⟩:=h7 _ rfl
   have e0:(Addr.add ⟨g,0,none⟩ 0)=⟨g,0,none⟩:=by simp[Addr.add]
   rw[e0] at ex
   have hnd:=h6.1.2.1
   have hf:es.find? (·.born == e.born)=some e:=by rw[← Array.find?_toList]; exact find_born e es.toList hnd he
   have hrun:(Instr.entry (.pointer (some ⟨g,0,none⟩))).run P W=.ok (.tuple #[e.key,e.val]) W:=by
    simp only[Instr.entry,getObj,z1a,Sem.run,h3,h5,Result.andThen,hs',bne_self_eq_false,z2s,if_false,hf]
    rfl
   have hd2:DenL ρ [.agg [.i .i64 p,.i .i64 q],.tt] [e.key,e.val]:=by
    rw[hke,hve]
    have h0:DenL ρ [.i .i64 p,.i .i64 q] [.int .i64 p,.int .i64 q]:=DenL.cons (.i _ _) (DenL.cons (.i _ _) (DenL.nil ρ))
    exact DenL.cons (.agg h0.1 h0.2) (DenL.cons .tt (DenL.nil ρ))
   refine OpTo.pure (v:=.tuple #[e.key,e.val]) ?_ (.tup hd2.1 hd2.2)
   simp only[execOp,ho,ex,z1a,hrun,z0o]
   rfl
  ·cases h
 ·cases h
theorem c7o {t k:Nat} {x:Operand} {ar:AR} {oty:Nat} (hT:TabOk P T) (ho:o.op=.field t x k) (hG:GlobOk T ρ) (hs:OpsOk ρ sl a [x]) (hc:sat a c) (h:q8 T sl m c oty (.field t x k)=some ar) :
  OpTo P a o W (StepPost ρ W m.length ar.sv ar.new):=by
 simp only[q8] at h
 split at h
 ·rename_i ti xs hti hx
  cases hk:Nat.beq ti.kind 1
  ·rw[hk] at h; cases h
  ·simp only[hk,z0f] at h
   obtain⟨sv,hf,rfl⟩:=a00 h
   obtain⟨vs,ex,hd⟩:=(f7 hG hx (hs.sub (by simp)) hc).agg_inv
   obtain⟨fs,hu,hm⟩:=a36 (hT.types t ti hti) (z0b hk)
   unfold c24 at hf
   have base:∀(o2:Nat × Nat) (b:Bool),nth ti.offs k=some o2→nth ti.fagg k=some b→∃ f:Field,fs.toList[k]?=some f∧f.offset=o2.1∧(∃ i,P.info? f.type=some i∧i.size=o2.2)∧∀ w:World,(isAgg f.type).run P w=.ok b w:=fun o2 b h1 h2=>by
    obtain⟨fs',hu',hfa⟩:=b87 (hT.ints t ti hti) (by intro e; rw[e] at h2; simp[nth] at h2)
    rw[hu] at hu'
    simp only[z0a,TypeDesc.struct.injEq] at hu'
    subst hu'
    obtain⟨f,i,hfk,hi,e⟩:=(b3c hm).2 k o2 (p9 h1)
    exact⟨f,hfk,by rw[e],⟨i,hi,by rw[e]⟩,b82 hfa k _ b hfk (p9 h2)⟩
   split at hf
   ·rename_i o2 h1 h2
    obtain⟨f,hfk,hoff,⟨i,hi,hsz⟩,hag⟩:=base _ _ h1 h2
    rw[z0h] at hf
    obtain⟨ys,hy,rfl⟩:=hf
    obtain⟨rfl,hlen⟩:=b9r hy
    have hd2:DenL ρ ((a12 o2.1 xs).take o2.2) ((vs.drop o2.1).take o2.2):=by
     rw[a3o] at hlen ⊢
     refine⟨by simp[hd.1],fun j y v hy hv=>?_⟩
     rw[z1u] at hy hv
     split at hy
     ·rename_i hj
      rw[if_pos hj] at hv
      rw[z1n] at hy hv
      exact hd.2 _ y v hy hv
     ·cases hy
    refine OpTo.pure (v:=.agg ((vs.drop o2.1).take o2.2).toArray) ?_ (.agg hd2.1 hd2.2)
    have e1:vs.toArray.extract o2.1 (o2.1 + o2.2)=((vs.drop o2.1).take o2.2).toArray:=by simp
    have hfk':fs[k]?=some f:=by simpa using hfk
    simp[execOp,ho,ex,Instr.field,run_underlying hu,hfk',part,hag,hoff,sizeOf,typeInfo,hi,hsz,asAgg]
   ·rename_i o2 h1 h2
    cases hs1:Nat.beq o2.2 1
    ·rw[hs1] at hf; cases hf
    ·simp only[hs1,z0f] at hf
     obtain⟨f,hfk,hoff,_,hag⟩:=base _ _ h1 h2
     obtain⟨v,hv,hdv⟩:=hd.get (p9 hf)
     have hfk':fs[k]?=some f:=by simpa using hfk
     refine OpTo.pure (v:=v) ?_ hdv
     simp[execOp,ho,ex,Instr.field,run_underlying hu,hfk',part,hag,hoff,asAgg,hv]
   ·cases hf
 ·cases h
theorem c7p {t:Nat} {x y:Operand} {ar:AR} {oty:Nat} (hT:TabOk P T) (ho:o.op=.index t x y) (hG:GlobOk T ρ) (hs:OpsOk ρ sl a [x,y]) (hc:sat a c) (h:q8 T sl m c oty (.index t x y)=some ar) (hp:∀ p∈ar.pre,p):OpTo P a o W (StepPost ρ W m.length ar.sv ar.new):=by
 simp only[q8] at h
 split at h
 ·rename_i ti s k n hti hx hy
  cases hk:Nat.beq ti.kind 6
  ·simp[hk] at h
  ·simp only[hk,z0f,z0a] at h
   subst h
   have hu:=b60 (hT.types t ti hti) (z0b hk)
   have ex:a.eval x=.string s:=by
    have:=f7 hG hx (hs.sub (by simp)) hc
    generalize a.eval x=v at this
    cases this; rfl
   have ey:=(f7 hG hy (hs.sub (by simp)) hc).i_inv
   have hb:=hp _ (z0r.2 rfl)
   have hlt:n.toNat < s.size:=by omega
   refine OpTo.pure (v:=.int .u8 (c8h s n)) ?_ (.i _ _)
   have hat:s[n.toNat]?=some s[n.toNat]:=getElem?_pos s n.toNat hlt
   simp[execOp,ho,ex,ey,Instr.index,asIntOf,run_underlying hu,hb.1,hat,c8h]
 ·cases h
theorem b9m {ar:AR} (hT:TabOk P T) (hG:GlobOk T ρ) (hS:∀ g,ρ.S g→g < W.heap.size) (hblk:∀ r k,m[r]?=some k→ρ r≠none→BR ρ W r k) (hf:∀ r,m.length≤r→r < m.length + ar.new.length→ρ r=none)
  (hs:OpsOk ρ sl a o.op.operands.toList) (hc:sat a c) (h:q8 T sl m c o.type o.op=some ar) (hp:∀ p∈ar.pre,p):OpTo P a o W (StepPost ρ W m.length ar.sv ar.new):=by
 generalize ho:o.op=op at h hs
 cases op
 case move x=>exact d0c ho hG (hs.sub (by simp[Op.operands])) hc h
 case assign x=>exact c4t ho hG (hs.sub (by simp[Op.operands])) hc h
 case pick q x y =>
  cases q
  case tmp q=>exact d0d ho hG (hs.sub (by simp[Op.operands])) hc h
  all_goals simp[q8] at h
 case alloc t=>exact c7k hT hS hf ho h
 case box t x=>exact d3y hS hf ho hG (hs.sub (by simp[Op.operands])) hc h
 case build t ps=>exact c7m hT ho hG (hs.sub (by simp[Op.operands])) hc h
 case buildSlice t n ps=>exact b4s hT hS ho hG (hs.sub (by simp[Op.operands])) hc h
 case slice t x lo hi mx =>
  cases mx with
  | none=>exact c7q hT ho hblk hG (hs.sub (by intro y hy; simp only[Op.operands]; simp at hy ⊢; exact hy)) hc h hp
  | some z=>simp[q8] at h
 case makeMap t r =>
  cases r with
  | none=>exact c1j hS ho h
  | some z=>simp[q8] at h
 case lookup t x y ok=>exact c4v hT ho hblk hG (hs.sub (by simp[Op.operands])) hc h
 case makeFunc f fs xs =>
  cases f with
  | func f=>exact b9d ho hG (hs.sub (by intro x hx; simp only[Op.operands]; simp; exact .inr (by simpa using hx))) hc h
  | _=>simp[q8] at h
 case entry x=>exact c7n ho hblk hG (hs.sub (by simp[Op.operands])) hc h
 case field t x k=>exact c7o hT ho hG (hs.sub (by simp[Op.operands])) hc h
 case makeSlice t x y=>exact b7h hT hS ho hG (hs.sub (by simp[Op.operands])) hc h hp
 case load t x=>exact c2q hT ho hblk hG (hs.sub (by simp[Op.operands])) hc h hp
 case binOp op t x y yt=>exact c7l hT ho hG (hs.sub (by simp[Op.operands])) hc h hp
 case unOp op t x=>exact d0e ho hG (hs.sub (by simp[Op.operands])) hc h
 case fieldAddr t x k=>exact b7f hT ho hG (hs.sub (by simp[Op.operands])) hc h
 case indexAddr t x y=>exact b7g hT ho hG (hs.sub (by simp[Op.operands])) hc h hp
 case index t x y=>exact c7p hT ho hG (hs.sub (by simp[Op.operands])) hc h hp
 case convert s d x=>exact c1h hT ho hG (hs.sub (by simp[Op.operands])) hc h
 case extract x k=>exact c1i ho hG (hs.sub (by simp[Op.operands])) hc h
 case call cl=>exact d0b hT hS hblk hf ho hG hs hc h hp
 all_goals simp[q8] at h
end
end Go.Proofs.YtaeeaniofljmnaaGreatDoor.Sx

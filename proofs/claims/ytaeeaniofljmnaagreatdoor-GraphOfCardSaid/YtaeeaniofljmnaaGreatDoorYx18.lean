/-
  A part of the proof (Yx18).
-/
import Derived.Test.YtaeeaniofljmnaaGreatDoorYxM
namespace Go.Proofs.YtaeeaniofljmnaaGreatDoor.Sx
set_option linter.unusedSimpArgs false
set_option linter.unusedVariables false
open Go Go.RowKit
def b9i (e N:Nat) (cols:List Col) (m:List MBlk):SV→Prop
 | .sl r n=>(match nth m r with
  | some (.oarr e' n' cols')=>bif Nat.beq e e' then n=N∧n'=N∧a1a N cols cols' else False
  | some (.orows e' _ n' none _ len gs)=>bif Nat.beq e e' then n=N∧n'=N∧a1a N cols [.rows len gs] else False
  | _=>False)
 | .nilsl=>N=0
 | _=>False
def b9h:SV→SV→Bool
 | .sl r _,.sl q _=>!(Nat.beq r q)
 | _,_=>true
def c2n (e1 N1:Nat) (c1:List Col) (e2 N2:Nat) (c2:List Col) (e3 N3:Nat) (c3:List Col) (m:List MBlk) (x y z:SV):Prop:=
 bif b9h x y && b9h x z && b9h y z then b9i e1 N1 c1 m x∧b9i e2 N2 c2 m y∧b9i e3 N3 c3 m z else False
def c7h (err:Option Int) (e1 N1:Nat) (c1:List Col) (e2 N2:Nat) (c2:List Col) (e3 N3:Nat) (c3:List Col):SV→List MBlk→Prop:=fun sv m=>match err,sv with
 | none,.agg [x,y,z]=>c2n e1 N1 c1 e2 N2 c2 e3 N3 c3 m x y z
 | some k,.tup [.agg [x,y,z],.i .i64 k']=>k'=k∧c2n e1 N1 c1 e2 N2 c2 e3 N3 c3 m x y z
 | _,_=>False
def d3i (err:Option Int) (b N1 N2 N3:Nat):SV:=match err with
 | none=>.agg [.sl b N1,.sl (b + 1) N2,.sl (b + 2) N3]
 | some k=>.tup [.agg [.sl b N1,.sl (b + 1) N2,.sl (b + 2) N3],.i .i64 k]
section
variable {ρ:Env} {W W':World} {ρ':Env} {m':List MBlk}
theorem b0p {e N:Nat} {cols:List Col} {x:SV} {v:Value} (hS:∀ g,ρ.S g→g < W.heap.size) (hd:Den ρ' x v) (hm:MR (a1y ρ W) W W' ρ' m') (h:b9i e N cols m' x) :
  ∃(z:Option Addr × Nat) (vs:List Value) (R':Nat→Prop),v=.slice z.1 N z.2∧(0 < N→z.1≠none)∧((∃ r k,x=.sl r N∧ρ' r=some z∧m'[r]?=some k∧l7 k=true)∨z=(none,0))∧W'.ownsRow 0 e cols.length (.slice z.1 N z.2) N vs ∧
   (∀ g,ρ'.R g→R' g)∧(∀ g,R' g→ρ'.R g∨(W.heap.size≤g∧g < W'.heap.size))∧(∀ g,R' g→ρ'.R g∨∃ r,ρ'.X r g) ∧
   ∀ j,j < N→∀ k col,cols[k]?=some col→∃ u,vs[j * cols.length + k]?=some u∧j4 R' W' col j u:=by
 unfold b9i at h
 split at h
 ·rename_i r n
  obtain⟨A,c,hz,rfl,hA⟩:=hd.sl_inv
  split at h
  ·rename_i e' n' cols' hk
   cases hee:Nat.beq e e'
   ·simp[hee] at h
   ·simp only[hee,z0f] at h
    obtain⟨rfl,rfl,hcc⟩:=h
    obtain rfl:=z0b hee
    obtain⟨A',c',vs,h1,h2,h3,h4,h5⟩:=hm.blk r _ (p9 hk) (by rw[hz]; simp)
    rw[hz] at h1
    simp only[z0a,z0g] at h1
    obtain⟨rfl,rfl⟩:=h1
    obtain⟨e1,e2⟩:=a1r hcc
    rw[e1] at h2 h5
    refine⟨(A,c),vs,ρ'.R,rfl,hA,.inl ⟨r,_,rfl,hz,p9 hk,rfl⟩,h2,fun _ h=>h,fun _ h=>.inl h,fun _ h=>.inl h,fun j hj k col hkc=>?_⟩
    have hk':=(z0c.1 hkc).1
    obtain⟨u,hu,hdu⟩:=h5 j hj k _ (z0i (by omega))
    exact⟨u,hu,a2p (e2 k col _ hkc (z0i (by omega))) hj hdu⟩
  ·rename_i e' q' n' lk len gs hk
   cases hee:Nat.beq e e'
   ·simp[hee] at h
   ·simp only[hee,z0f] at h
    obtain⟨rfl,rfl,hcc⟩:=h
    obtain rfl:=z0b hee
    obtain⟨A',c',vs,h1,h2,h3,h4,h5,h6,_⟩:=hm.blk r _ (p9 hk) (by rw[hz]; simp)
    rw[hz] at h1
    simp only[z0a,z0g] at h1
    obtain⟨rfl,rfl⟩:=h1
    obtain⟨e1,e2⟩:=a1r hcc
    have e1:cols.length=1:=by simpa using e1.symm
    refine⟨(A,c),vs,fun g=>ρ'.R g∨ρ'.X r g,rfl,hA,.inl ⟨r,_,rfl,hz,p9 hk,rfl⟩,by rw[e1]; exact h2,fun _ h=>.inl h,fun g h=>?_,fun g h=>h.imp id (fun h=>⟨r,h⟩),fun j hj k col hkc=>?_⟩
    ·rcases h with h | h
     ·exact .inl h
     ·obtain⟨_,x2,x3⟩:=hm.xlt r g h
      exact .inr ⟨z1z fun hlt=>x2 (hm.sub g hlt),x3⟩
    ·have hk':=(z0c.1 hkc).1
     have hk0:k=0:=by omega
     subst hk0
     obtain⟨B,d,us,f1,f2,f3,f4⟩:=h5 j hj (by simp)
     refine⟨_,by rw[e1]; simpa using f1,a2p (e2 0 col _ hkc rfl) hj ⟨B,d,rfl,?_,fun h0=>?_⟩⟩
     ·rcases f2.2 with⟨_,h0⟩ | ⟨g,cap,cur,h,_,_,hnc,_⟩
      ·omega
      ·simp only[z0y] at h; omega
     ·rcases f2.2 with⟨_,h0'⟩ | ⟨g,cap,cur,h,_⟩
      ·omega
      ·simp only[z0y] at h
       refine⟨⟨g,0,none⟩,h.1,.inr (f3 _ h.1),fun i hi k g' hg'=>?_⟩
       exact f2.cells (by rw[h.1]; rfl) _ _ (f4 i hi k g' hg')
  ·exact h.elim
 ·subst h
  refine⟨(none,0),[],ρ'.R,?_,fun h=>absurd h (z1k _),.inr rfl,⟨by simp,.inl ⟨rfl,rfl⟩⟩,fun _ h=>h,fun _ h=>.inl h,fun _ h=>.inl h,fun j hj=>absurd hj (z1l _)⟩
  cases hd
  rfl
 ·exact h.elim
theorem d05 {err:Option Int} {e1 N1:Nat} {c1:List Col} {e2 N2:Nat} {c2:List Col} {e3 N3:Nat} {c3:List Col} (hc1:0 < c1.length) (hc2:0 < c2.length) (hc3:0 < c3.length):b2a (c7h err e1 N1 c1 e2 N2 c2 e3 N3 c3) (fun b=>d3i err b N1 N2 N3) [.oarr e1 N1 c1,.oarr e2 N2 c2,.oarr e3 N3 c3]:=fun ρ W W' base v ρ' m' sv hS hd hm hx'=>by
 refine⟨Keeps.callee hm,?_⟩
 have key:∀(x y z:SV) (u:Value),c2n e1 N1 c1 e2 N2 c2 e3 N3 c3 m' x y z→Den ρ' (.agg [x,y,z]) u →
   ∃ σ:Env,(∀ r,r < base∨base + 3≤r→σ r=ρ r)∧SGrow ρ σ W W'∧Den σ (.agg [.sl base N1,.sl (base + 1) N2,.sl (base + 2) N3]) u∧News σ W W' base [.oarr e1 N1 c1,.oarr e2 N2 c2,.oarr e3 N3 c3]:=fun x y z u h hu=>by
  unfold c2n at h
  cases hne:(b9h x y && b9h x z && b9h y z)
  ·rw[hne] at h; exact h.elim
  rw[hne,z0f] at h
  obtain⟨g1,g2,g3⟩:=h
  simp only[z0d] at hne
  obtain⟨ws,rfl,hws⟩:=hu.agg_inv
  obtain⟨w1,us,rfl,d1,hws⟩:=hws.inv
  obtain⟨w2,us,rfl,d2,hws⟩:=hws.inv
  obtain⟨w3,us,rfl,d3,hws⟩:=hws.inv
  obtain rfl:=hws.inv_nil
  obtain⟨z1,v1,R1,rfl,a1,p1,o1,r1,s1,t1,k1⟩:=b0p hS d1 hm g1
  obtain⟨z2,v2,R2,rfl,a2,p2,o2,r2,s2,t2,k2⟩:=b0p hS d2 hm g2
  obtain⟨z3,v3,R3,rfl,a3,p3,o3,r3,s3,t3,k3⟩:=b0p hS d3 hm g3
  let R:Nat→Prop:=fun g=>R1 g∨R2 g∨R3 g
  have hR2:∀ g,R g→ρ'.R g∨(W.heap.size≤g∧g < W'.heap.size):=fun g h=>by rcases h with h | h | h; exact s1 g h; exact s2 g h; exact s3 g h
  have hR3:∀ g,R g→ρ'.R g∨∃ r,ρ'.X r g:=fun g h=>by rcases h with h | h | h; exact t1 g h; exact t2 g h; exact t3 g h
  let σ:Env:=⟨fun s=>if s=base then some z1 else if s=base + 1 then some z2 else if s=base + 2 then some z3 else ρ s,fun g=>ρ.S g∨(R g∧W.heap.size≤g),fun g=>ρ.T g∨(R g∧W.heap.size≤g),ρ.X⟩
  have hσ1:σ base=some z1:=by simp[σ]
  have hσ2:σ (base + 1)=some z2:=by simp[σ]
  have hσ3:σ (base + 2)=some z3:=by simp[σ]
  have hRle:∀ g,R g→σ.R g:=fun g hg=>by
   by_cases hlt:W.heap.size≤g
   ·exact⟨.inr ⟨hg,hlt⟩,.inr ⟨hg,hlt⟩⟩
   ·rcases hR2 g hg with h | h
    ·rcases hm.rows g h with h | h
     ·exact⟨.inl h.1,.inl h.2⟩
     ·exact absurd (z1z h) hlt
    ·exact absurd h.1 hlt
  have own:∀ {x:SV} {N:Nat} {z:Option Addr × Nat},((∃ r k,x=.sl r N∧ρ' r=some z∧m'[r]?=some k∧l7 k=true)∨z=(none,0))→∀ a,z.1=some a→W.heap.size≤a.block∧¬ R a.block:=fun {x N z} hp a ha=>by
   rcases hp with⟨r,k,_,q1,q2,q3⟩ | rfl
   ·have hb:=hm.blk r k q2 (by rw[q1]; simp)
    obtain⟨q4,q5⟩:=t9 hb q3 (a:=a) (c:=z.2) (by rw[q1,← ha])
    refine⟨z1z fun hlt=>q4 (hm.sub _ hlt),fun hR=>?_⟩
    rcases hR3 _ hR with h | ⟨s,h⟩
    ·exact q4 h.1
    ·exact hm.xown s _ r k a z.2 h q2 q3 (by rw[q1,← ha]) rfl
   ·cases ha
  have two:∀ {x y:SV} {N N':Nat} {z z':Option Addr × Nat},b9h x y=true→((∃ r k,x=.sl r N∧ρ' r=some z∧m'[r]?=some k∧l7 k=true)∨z=(none,0))→((∃ r k,y=.sl r N'∧ρ' r=some z'∧m'[r]?=some k∧l7 k=true)∨z'=(none,0)) →
    ∀ a b,z.1=some a→z'.1=some b→a.block≠b.block:=fun {x y N N' z z'} hxy hp hq a b ha hb hab=>by
   rcases hp with⟨r,k,rfl,q1,q2,q3⟩ | rfl
   ·rcases hq with⟨r',k',rfl,q1',q2',q3'⟩ | rfl
    ·have:=hm.sep r r' k k' a b z.2 z'.2 q2 q2' q3 q3' (by rw[q1,← ha]) (by rw[q1',← hb]) hab
     subst this
     simp[b9h] at hxy
    ·cases hb
   ·cases ha
  have blk:∀ {i e N:Nat} {cols:List Col} {x:SV} {z:Option Addr × Nat} {vs:List Value} {R':Nat→Prop},σ i=some z→0 < cols.length→((∃ r k,x=.sl r N∧ρ' r=some z∧m'[r]?=some k∧l7 k=true)∨z=(none,0))→W'.ownsRow 0 e cols.length (.slice z.1 N z.2) N vs→(∀ g,R' g→R g) →
    (∀ j,j < N→∀ k col,cols[k]?=some col→∃ u,vs[j * cols.length + k]?=some u∧j4 R' W' col j u)→BR σ W' i (.oarr e N cols):=fun {i e N cols x z vs R'} hi hc hp ho hR hk =>
   ⟨z.1,z.2,vs,hi,ho,fun a ha hs=>by
    obtain⟨q1,q2⟩:=own hp a ha
    rcases hs with hs | hs
    ·have:=hS _ hs; omega
    ·exact q2 hs.1,hc,fun j hj k col hkc=>by
    obtain⟨u,hu,hdu⟩:=hk j hj k col hkc
    exact⟨u,hu,s7 hdu (fun g hg=>hRle g (hR g hg)) (fun _ _=>rfl)⟩⟩
  have hag:DenL σ [.sl base N1,.sl (base + 1) N2,.sl (base + 2) N3] [.slice z1.1 N1 z1.2,.slice z2.1 N2 z2.2,.slice z3.1 N3 z3.2]:=DenL.cons (.sl hσ1 a1) (DenL.cons (.sl hσ2 a2) (DenL.cons (.sl hσ3 a3) (DenL.nil _)))
  refine⟨σ,fun r hr=>?_,⟨fun g h=>.inl h,fun g h=>?_,fun g h=>.inl h,fun g h=>?_,rfl⟩,.agg hag.1 hag.2,⟨fun j b hj _=>?_,fun j b a c hj ho hx=>?_,fun j l b d a c x' y' hj hl _ _ hx hy hac=>?_⟩⟩
  ·simp only[σ,if_neg (show ¬ r=base by omega),if_neg (show ¬ r=base + 1 by omega),if_neg (show ¬ r=base + 2 by omega)]
  ·rcases h with h | h
   ·exact .inl h
   ·refine .inr ⟨h.2,?_⟩
    rcases hR2 g h.1 with h' | h'
    ·exact hm.hS g h'.1
    ·exact h'.2
  ·rcases h with⟨h1 | h1,h2 | h2⟩
   ·exact .inl ⟨h1,h2⟩
   ·exact .inr h2.2
   ·exact .inr h1.2
   ·exact .inr h1.2
  ·match j,hj with
   | 0,hj=>simp at hj; subst hj; exact blk hσ1 hc1 p1 o1 (fun _ h=>.inl h) k1
   | 1,hj=>simp at hj; subst hj; exact blk hσ2 hc2 p2 o2 (fun _ h=>.inr (.inl h)) k2
   | 2,hj=>simp at hj; subst hj; exact blk hσ3 hc3 p3 o3 (fun _ h=>.inr (.inr h)) k3
   | j + 3,hj=>simp at hj
  ·match j,hj with
   | 0,hj=>rw[z1i,hσ1] at hx; simp only[z0a] at hx; exact(own p1 a (by rw[hx])).1
   | 1,hj=>rw[hσ2] at hx; simp only[z0a] at hx; exact(own p2 a (by rw[hx])).1
   | 2,hj=>rw[hσ3] at hx; simp only[z0a] at hx; exact(own p3 a (by rw[hx])).1
   | j + 3,hj=>simp at hj
  ·have z1e:σ (base + 0)=some z1:=hσ1
   match j,l,hj,hl with
   | 0,0,_,_=>rfl
   | 1,1,_,_=>rfl
   | 2,2,_,_=>rfl
   | 0,1,_,_=>rw[z1e] at hx; rw[hσ2] at hy; simp only[z0a] at hx hy; exact absurd hac (two hne.1.1 p1 p2 a c (by rw[hx]) (by rw[hy]))
   | 0,2,_,_=>rw[z1e] at hx; rw[hσ3] at hy; simp only[z0a] at hx hy; exact absurd hac (two hne.1.2 p1 p3 a c (by rw[hx]) (by rw[hy]))
   | 1,2,_,_=>rw[hσ2] at hx; rw[hσ3] at hy; simp only[z0a] at hx hy; exact absurd hac (two hne.2 p2 p3 a c (by rw[hx]) (by rw[hy]))
   | 1,0,_,_=>rw[hσ2] at hx; rw[z1e] at hy; simp only[z0a] at hx hy; exact absurd hac.symm (two hne.1.1 p1 p2 c a (by rw[hy]) (by rw[hx]))
   | 2,0,_,_=>rw[hσ3] at hx; rw[z1e] at hy; simp only[z0a] at hx hy; exact absurd hac.symm (two hne.1.2 p1 p3 c a (by rw[hy]) (by rw[hx]))
   | 2,1,_,_=>rw[hσ3] at hx; rw[hσ2] at hy; simp only[z0a] at hx hy; exact absurd hac.symm (two hne.2 p2 p3 c a (by rw[hy]) (by rw[hx]))
   | j + 3,_,hj,_=>simp at hj
   | _,l + 3,_,hl=>simp at hl
 unfold c7h at hx'
 split at hx'
 ·rename_i x y z
  exact key x y z v hx' hd
 ·rename_i k x y z k'
  obtain⟨rfl,hx'⟩:=hx'
  obtain⟨vs,rfl,hvs⟩:=hd.tup_inv
  obtain⟨u,us,rfl,d1,hvs⟩:=hvs.inv
  obtain⟨u2,us,rfl,d2,hvs⟩:=hvs.inv
  obtain rfl:=hvs.inv_nil
  obtain⟨σ,q1,q2,q3,q4⟩:=key x y z u hx' d1
  have hl:DenL σ [.agg [.sl base N1,.sl (base + 1) N2,.sl (base + 2) N3],.i .i64 k'] [u,u2]:=DenL.cons q3 (DenL.cons (a2s rfl d2) (DenL.nil _))
  exact⟨σ,q1,q2,.tup hl.1 hl.2,q4⟩
 ·exact hx'.elim
end
theorem Den.fn_inv {ρ:Env} {f:Nat} {xs:List SV} {v:Value} (h:Den ρ (.fn f xs) v):∃ vs,v=.func (.func f) #[] vs.toArray∧DenL ρ xs vs:=by cases h with | fn h1 h2=>exact⟨_,rfl,h1,h2⟩
inductive PK where
 | lf (k:AK)
 | ag (ks:List AK)
 | bx (ks:List AK)
 | cl (f h:Nat) (ks:List AK)
 | cb (f:Nat) (ks:List AK)
 | fc (f:Nat)
 | st
 | c
inductive PV where
 | lf (a:AV)
 | ag (as:List AV)
 | bx (as:List AV)
 | cl (f h:Nat) (as:List AV)
 | cb (f:Nat) (as:List AV)
 | fc (f:Nat)
 | st (s:ByteArray)
 | c (n:Int)
def a6i:List AV→Nat
 | []=>0
 | a :: r=>a.use + a6i r
def a77:Nat→List PV→List SV
 | _,[]=>[]
 | i,.lf a :: r=>a.sv i :: a77 (i + a.use) r
 | i,.ag as :: r=>.agg (a4a i as) :: a77 (i + a6i as) r
 | i,.bx as :: r=>.ptr i 0 :: a77 (i + (a6i as + 1)) r
 | i,.cl f _ as :: r=>.fn f [.ptr i 0,.ptr (i + 1) 0] :: a77 (i + (a6i as + 2)) r
 | i,.cb f as :: r=>.fn f [.ptr i 0] :: a77 (i + (a6i as + 1)) r
 | i,.fc f :: r=>.fn f [] :: a77 i r
 | i,.st s :: r=>.v (.string s) :: a77 i r
 | i,.c n :: r=>.i .u8 n :: a77 i r
def a1u:Nat→List PV→List MBlk
 | _,[]=>[]
 | i,.lf a :: r=>z5 [a] ++ a1u (i + a.use) r
 | i,.ag as :: r=>z5 as ++ a1u (i + a6i as) r
 | i,.bx as :: r=>.old (a4a (i + 1) as) :: (z5 as ++ a1u (i + (a6i as + 1)) r)
 | i,.cl _ h as :: r=>.old (a4a (i + 2) as) :: .old [.fn h []] :: (z5 as ++ a1u (i + (a6i as + 2)) r)
 | i,.cb _ as :: r=>.old (a4a (i + 1) as) :: (z5 as ++ a1u (i + (a6i as + 1)) r)
 | i,.fc _ :: r=>a1u i r
 | i,.st _ :: r=>a1u i r
 | i,.c _ :: r=>a1u i r
def rdCl (m:List MBlk) (nm:List (Option AV)) (f h:Nat) (ks:List AK):SV→Option (List Prop × List (Option (Option Nat)) × PV)
 | .fn g [.ptr r 0,.ptr q 0]=>match nth m r,nth m q with
  | some (.cells xs),some (.cells [.fn h' []])=>bif Nat.beq f g && Nat.beq h h' then(match a6c m ks xs with
   | some (p,qs,as)=>(match z9 nm qs as with
    | some (p2,as')=>some (p ++ p2,some (some r) :: some (some q) :: qs,.cl f h as')
    | none=>none)
   | none=>none) else none
  | _,_=>none
 | _=>none
def rdCb (m:List MBlk) (nm:List (Option AV)) (f:Nat) (ks:List AK):SV→Option (List Prop × List (Option (Option Nat)) × PV)
 | .fn g [.ptr r 0]=>match nth m r with
  | some (.cells xs)=>bif Nat.beq f g then(match a6c m ks xs with
   | some (p,qs,as)=>(match z9 nm qs as with
    | some (p2,as')=>some (p ++ p2,some (some r) :: qs,.cb f as')
    | none=>none)
   | none=>none) else none
  | _=>none
 | _=>none
def rdFc (f:Nat):SV→Option (List Prop × List (Option (Option Nat)) × PV)
 | .fn g []=>bif Nat.beq f g then some ([],[],.fc f) else none
 | _=>none
def rdP (m:List MBlk) (nm:List (Option AV)):PK→SV→Option (List Prop × List (Option (Option Nat)) × PV)
 | .lf k,v=>match rdA m k v with
  | some (p,q,a)=>match a9d nm q a with
   | some (p2,a')=>some (p ++ p2,[q],.lf a')
   | none=>none
  | none=>none
 | .ag ks,.agg xs=>match a6c m ks xs with
  | some (p,qs,as)=>match z9 nm qs as with
   | some (p2,as')=>some (p ++ p2,qs,.ag as')
   | none=>none
  | none=>none
 | .bx ks,.ptr r 0=>match nth m r with
  | some (.cells xs)=>(match a6c m ks xs with
   | some (p,qs,as)=>(match z9 nm qs as with
    | some (p2,as')=>some (p ++ p2,some (some r) :: qs,.bx as')
    | none=>none)
   | none=>none)
  | _=>none
 | .cl f h ks,v=>rdCl m nm f h ks v
 | .cb f ks,v=>rdCb m nm f ks v
 | .fc f,v=>rdFc f v
 | .st,.v (.string s)=>some ([],[],.st s)
 | .c,.i .u8 n=>some ([],[],.c n)
 | _,_=>none
def c4m (m:List MBlk) (nm:List (Option AV)):List PK→List SV→Option (List Prop × List (Option (Option Nat)) × List PV)
 | [],[]=>some ([],[],[])
 | k :: ks,v :: vs=>match rdP m nm k v,c4m m nm ks vs with
  | some (p,q,a),some (ps,qs,as)=>some (p ++ ps,q ++ qs,a :: as)
  | _,_=>none
 | _,_=>none
inductive QV where
 | rv (r:RV)
 | gr (err:Option Int) (es:List Ev) (rf:List Int) (mo:List (List Int))
 | m1 (k:IntKind) (k':Option IntKind) (f:Int→Option Int)
def QV.ok:QV→Bool
 | .rv r=>r.ok
 | .gr _ _ _ _=>true
 | .m1 _ _ _=>true
def QV.post (E:Els):QV→SV→List MBlk→Prop
 | .rv r=>r.post E
 | .gr err es rf mo=>c7h err E.es es.length (g9 es) E.is rf.length (j6 rf) E.rs mo.length (l4 mo)
 | .m1 k k' f=>c2o k k' f
def QV.ar (E:Els) (n:Nat) (pre:List Prop):QV→AR
 | .rv r=>r.ar E n pre
 | .gr err es rf mo=>⟨pre,d3i err n es.length rf.length mo.length,[.oarr E.es es.length (g9 es),.oarr E.is rf.length (j6 rf),.oarr E.rs mo.length (l4 mo)]⟩
 | .m1 k k' f=>⟨pre,.mp n,[.mapi k k' f]⟩
def c2i (nm:List (Option AV)) (m:List MBlk):QV→Option (List Prop × QV)
 | .rv r=>match a7z nm m r with
  | some (p,r')=>some (p,.rv r')
  | none=>none
 | .gr err es rf mo=>some ([],.gr err es rf mo)
 | .m1 k k' f=>some ([],.m1 k k' f)
def gbP (gb:Option (Nat × MBlk)) (m:List MBlk):List Prop:=match gb with
 | some (_,k)=>[nth m 0=some k]
 | none=>[]
def gbM (gb:Option (Nat × MBlk)):List MBlk:=match gb with
 | some (_,k)=>[k]
 | none=>[]
def gbG (gb:Option (Nat × MBlk)):List (Nat × Nat):=match gb with
 | some (g,_)=>[(g,0)]
 | none=>[]
def gbN (gb:Option (Nat × MBlk)):Nat:=match gb with
 | some _=>1
 | none=>0
def n8 (E:Els) (gb:Option (Nat × MBlk)) (nm:List (Option AV)) (ks:List PK) (S:List PV→Option (List Prop × QV)):List MBlk→List SV→Option AR:=fun m vs=>match c4m m nm ks vs with
 | some (p1,_,as)=>match S as with
  | some (p3,rv)=>match c2i nm m rv with
   | some (p4,rv')=>some (rv'.ar E m.length (gbP gb m ++ (p1 ++ (p3 ++ p4))))
   | none=>none
  | none=>none
 | none=>none
theorem c7a:∀(a b:List (Option (Option Nat))),a3e (a ++ b)=a3e a ++ a3e b:=by
 intro a b
 induction a with
 | nil=>rfl
 | cons q r ih=>cases q <;> simp[a3e,ih]
theorem a22:∀(as:List AV),(z5 as).length=a6i as:=by
 intro as
 induction as with
 | nil=>rfl
 | cons a r ih =>
  simp only[z5,a6i,AV.use]
  cases a.blk <;> simp[ih]; omega
theorem b5i:∀ {a b:List MBlk},a0f a=true→a0f b=true→a0f (a ++ b)=true:=by
 intro a
 induction a with
 | nil=>intro b _ h; exact h
 | cons k r ih =>
  intro b h1 h2
  have hk:a0f [k]=true∧a0f r=true:=by
   cases k with
   | arr n cols=>simp only[a0f,z0d,z1x] at h1 ⊢; exact h1
   | old cs=>exact⟨rfl,h1⟩
   | fmapp f=>exact⟨rfl,h1⟩
   | gone=>exact⟨rfl,h1⟩
   | _=>simp[a0f] at h1
  exact b3d hk.1 (ih hk.2 h2)
mutual
theorem b8i {n n':Nat} (hn:n≤n'):∀(x:SV),x.ltB n=true→x.ltB n'=true
 | .ptr _ _,h=>by simp only[SV.ltB,z0u] at h ⊢; omega
 | .pix _ _ _ _,h=>by simp only[SV.ltB,z0u] at h ⊢; omega
 | .sl _ _,h=>by simp only[SV.ltB,z0u] at h ⊢; omega
 | .sub _ _ _ _,h=>by simp only[SV.ltB,z0u] at h ⊢; omega
 | .mp _,h=>by simp only[SV.ltB,z0u] at h ⊢; omega
 | .yld _,h=>by simp only[SV.ltB,z0u] at h ⊢; omega
 | .agg xs,h=>by simp only[SV.ltB] at h ⊢; exact a3s hn xs h
 | .tup xs,h=>by simp only[SV.ltB] at h ⊢; exact a3s hn xs h
 | .fn _ xs,h=>by simp only[SV.ltB] at h ⊢; exact a3s hn xs h
 | .tt,_ | .ff,_ | .nilsl,_ | .nilptr,_ | .nilmap,_ | .dead,_ | .b _,_ | .i _ _,_ | .v _,_=>rfl
theorem a3s {n n':Nat} (hn:n≤n'):∀(xs:List SV),ltL xs n=true→ltL xs n'=true
 | [],_=>rfl
 | x :: r,h=>by simp only[ltL,z0d] at h ⊢; exact⟨b8i hn x h.1,a3s hn r h.2⟩
end
theorem knownAs.mono {f:Nat→Option Nat} {m:List MBlk} {N N' i:Nat} {k0:MBlk} (h:knownAs f m N i k0) (hn:N≤N'):knownAs f m N' i k0:=by
 rcases h with h | h | ⟨r,cs,cs',h1,h2,h3,h4,h5⟩
 ·exact .inl h
 ·exact .inr (.inl h)
 ·exact .inr (.inr ⟨r,cs,cs',h1,h2,h3,a3s hn _ h4,h5⟩)
theorem d07 {m:List MBlk} {nm:List (Option AV)}:∀ {ks:List PK} {vs:List SV} {ps:List Prop} {qs:List (Option (Option Nat))} {as:List PV},c4m m nm ks vs=some (ps,qs,as)→(∀ p∈ps,p)→∀(f:Nat→Option Nat) (i:Nat),(∀ j q,(a3e qs)[j]?=some q→f (i + j)=q) →
  (a1u i as).length=(a3e qs).length∧(∀ ρ xs,DenL ρ vs xs→DenL (t5 f ρ) (a77 i as) xs)∧ltL (a77 i as) (i + (a1u i as).length)=true∧a0f (a1u i as)=true ∧
  ∀ j k0,(a1u i as)[j]?=some k0→knownAs f m (i + (a1u i as).length) (i + j) k0:=by
 intro ks
 induction ks with
 | nil =>
  intro vs ps qs as h _ f i _
  cases vs <;> simp only[c4m] at h
  ·cases h
   exact⟨rfl,fun ρ xs h=>h.nilc,rfl,rfl,fun j k0 h=>by simp[a1u] at h⟩
  ·cases h
 | cons k ks ih =>
  intro vs ps qs as h hp f i hf
  cases vs with
  | nil=>simp[c4m] at h
  | cons v vs =>
   simp only[c4m] at h
   split at h
   ·rename_i p q a ps' qs' as' ha has
    cases h
    rw[c7a] at hf ⊢
    have one:∃(mm:List MBlk) (xs:SV),(∀ r,a1u i (a :: r)=mm ++ a1u (i + mm.length) r∧a77 i (a :: r)=xs :: a77 (i + mm.length) r)∧mm.length=(a3e q).length∧(∀ ρ u,Den ρ v u→Den (t5 f ρ) xs u)∧xs.ltB (i + mm.length)=true∧a0f mm=true ∧
      ∀ j k0,mm[j]?=some k0→knownAs f m (i + mm.length) (i + j) k0:=by
     have hp1:∀ x∈p,x:=fun x hx=>hp x (z0n.2 (.inl hx))
     have hf1:∀ j q',(a3e q)[j]?=some q'→f (i + j)=q':=fun j q' hq=>hf j q' (by rw[z0t (z0c.1 hq).1]; exact hq)
     cases k with
     | lf k =>
      simp only[rdP] at ha
      split at ha
      ·rename_i p' q' a0 hr
       split at ha
       ·rename_i p2 a1 hn
        cases ha
        have:=b3f hn (fun x hx=>hp1 x (z0n.2 (.inr hx)))
        subst this
        have hra:a6c m [k] [v]=some (p' ++ [],[q'],[a1]):=by simp[a6c,hr]
        obtain⟨e1,e2,e3,e4,e5⟩:=a5l hra (fun x hx=>hp1 x (z0n.2 (.inl (by simpa using hx)))) f i hf1
        have hu:(z5 [a1]).length=a1.use:=by rw[a22]; simp[a6i]
        refine⟨z5 [a1],a1.sv i,fun r=>⟨by rw[hu]; rfl,by rw[hu]; rfl⟩,e1,fun ρ u hu=>?_,?_,e4,fun j k0 hj=>(e5 j k0 hj).imp id .inl⟩
        ·obtain⟨w,ws,h1,h2,h3⟩:=(e2 ρ [u] (DenL.cons hu (DenL.nil _))).inv
         cases h1
         exact h2
        ·have:ltL (a4a i [a1]) (i + (z5 [a1]).length)=true:=e3
         simp only[a4a,ltL,z1x] at this
         exact this
       ·cases ha
      ·cases ha
     | ag ks =>
      cases v <;> simp only[rdP] at ha <;> try cases ha
      rename_i xs
      split at ha
      ·rename_i p' q' as0 hr
       split at ha
       ·rename_i p2 as1 hn
        cases ha
        have:=a4d hn (fun x hx=>hp1 x (z0n.2 (.inr hx)))
        subst this
        obtain⟨e1,e2,e3,e4,e5⟩:=a5l hr (fun x hx=>hp1 x (z0n.2 (.inl hx))) f i hf1
        refine⟨z5 as1,.agg (a4a i as1),fun r=>⟨by rw[a22]; rfl,by rw[a22]; rfl⟩,e1,fun ρ u hu=>?_,by simp only[SV.ltB]; exact e3,e4,fun j k0 hj=>(e5 j k0 hj).imp id .inl⟩
        obtain⟨ws,rfl,hw⟩:=hu.agg_inv
        have:=e2 ρ ws hw
        exact .agg this.1 this.2
       ·cases ha
      ·cases ha
     | bx ks =>
      cases v <;> simp only[rdP] at ha <;> try cases ha
      rename_i r off
      cases off <;> simp only[rdP] at ha <;> try cases ha
      split at ha
      ·rename_i xs hm
       split at ha
       ·rename_i p' q' as0 hr
        split at ha
        ·rename_i p2 as1 hn
         cases ha
         have:=a4d hn (fun x hx=>hp1 x (z0n.2 (.inr hx)))
         subst this
         have hfi:f i=some r:=by have:=hf1 0 (some r) rfl; simpa using this
         obtain⟨e1,e2,e3,e4,e5⟩:=a5l hr (fun x hx=>hp1 x (z0n.2 (.inl hx))) f (i + 1) (fun j q' hq=>by rw[z2v,Nat.add_comm 1]; exact hf1 (j + 1) q' (by simpa [a3e] using hq))
         refine⟨.old (a4a (i + 1) as1) :: z5 as1,.ptr i 0,fun s=>⟨by rw[z1g,a22]; rfl,by rw[z1g,a22]; rfl⟩,by simp[a3e,e1],fun ρ u hu=>?_,?_,by simp only[a0f]; exact e4,fun j k0 hj=>?_⟩
         ·obtain⟨b,c,hb,rfl⟩:=hu.ptr_inv
          exact .ptr (c:=c) (by simp only[t5,hfi]; exact hb)
         ·simp only[SV.ltB,z0u,z1g]; omega
         ·cases j with
          | zero =>
           simp at hj
           subst hj
           exact .inr (.inr ⟨r,xs,_,hfi,p9 hm,rfl,a3s (by simp; omega) _ e3,fun ρ vs hd=>e2 ρ vs hd⟩)
          | succ j =>
           have:=(e5 j k0 (by simpa using hj)).imp id (Or.inl (b:=∃ r cs cs',f (i + 1 + j)=some r∧m[r]?=some (.cells cs)∧k0=.old cs'∧ltL cs' (i + (MBlk.old (a4a (i + 1) as1) :: z5 as1).length)=true∧∀ ρ vs,DenL ρ cs vs→DenL (t5 f ρ) cs' vs))
           rw[show i + 1 + j=i + (j + 1) by omega] at this
           exact this
        ·cases ha
       ·cases ha
      ·cases ha
     | cl f0 h0 ks =>
      simp only[rdP] at ha
      unfold rdCl at ha
      split at ha
      ·rename_i g r q
       split at ha
       ·rename_i xs h' hm hmq
        cases hb:(Nat.beq f0 g && Nat.beq h0 h')
        ·rw[hb] at ha; cases ha
        rw[hb,z0f] at ha
        simp only[z0d] at hb
        obtain rfl:=z0b hb.1
        obtain rfl:=z0b hb.2
        split at ha
        ·rename_i p' q' as0 hr
         split at ha
         ·rename_i p2 as1 hn
          cases ha
          have:=a4d hn (fun x hx=>hp1 x (z0n.2 (.inr hx)))
          subst this
          have hfi:f i=some r:=by have:=hf1 0 (some r) rfl; simpa using this
          have hfj:f (i + 1)=some q:=hf1 1 (some q) rfl
          obtain⟨e1,e2,e3,e4,e5⟩:=a5l hr (fun x hx=>hp1 x (z0n.2 (.inl hx))) f (i + 2) (fun j q' hq=>by rw[z2v,Nat.add_comm 2]; exact hf1 (j + 2) q' (by simpa [a3e] using hq))
          refine⟨.old (a4a (i + 2) as1) :: .old [.fn h0 []] :: z5 as1,.fn f0 [.ptr i 0,.ptr (i + 1) 0],fun s=>⟨by rw[z1g,z1g,a22]; rfl,by rw[z1g,z1g,a22]; rfl⟩,by simp[a3e,e1],fun ρ u hu=>?_,?_,by simp only[a0f]; exact e4,fun j k0 hj=>?_⟩
          ·obtain⟨ws,rfl,hws⟩:=hu.fn_inv
           obtain⟨w1,us,rfl,d1,hws⟩:=hws.inv
           obtain⟨w2,us,rfl,d2,hws⟩:=hws.inv
           obtain rfl:=hws.inv_nil
           obtain⟨b,c,hb1,rfl⟩:=d1.ptr_inv
           obtain⟨b',c',hb2,rfl⟩:=d2.ptr_inv
           have:=DenL.cons (ρ:=t5 f ρ) (.ptr (r:=i) (off:=0) (c:=c) (by simp only[t5,hfi]; exact hb1)) (DenL.cons (.ptr (r:=i + 1) (off:=0) (c:=c') (by simp only[t5,hfj]; exact hb2)) (DenL.nil _))
           exact .fn this.1 this.2
          ·simp only[SV.ltB,ltL,z0u,z1g,z1x,z0d]; omega
          ·match j,hj with
           | 0,hj =>
            simp at hj
            subst hj
            exact .inr (.inr ⟨r,xs,_,hfi,p9 hm,rfl,a3s (by simp; omega) _ e3,fun ρ vs hd=>e2 ρ vs hd⟩)
           | 1,hj =>
            simp at hj
            subst hj
            refine .inr (.inr ⟨q,_,_,hfj,p9 hmq,rfl,rfl,fun ρ vs hd=>?_⟩)
            obtain⟨w,ws,rfl,d1,hd⟩:=hd.inv
            obtain rfl:=hd.inv_nil
            obtain⟨ws,rfl,hws⟩:=d1.fn_inv
            obtain rfl:=hws.inv_nil
            exact DenL.cons (.fn rfl (fun j x u hx=>by simp at hx)) (DenL.nil _)
           | j + 2,hj =>
            have:=(e5 j k0 (by simpa using hj)).imp id (Or.inl (b:=∃ r cs cs',f (i + 2 + j)=some r∧m[r]?=some (.cells cs)∧k0=.old cs'∧ltL cs' (i + (MBlk.old (a4a (i + 2) as1) :: .old [.fn h0 []] :: z5 as1).length)=true∧∀ ρ vs,DenL ρ cs vs→DenL (t5 f ρ) cs' vs))
            rw[show i + 2 + j=i + (j + 2) by omega] at this
            exact this
         ·cases ha
        ·cases ha
       ·cases ha
      ·cases ha
     | cb f0 ks =>
      simp only[rdP] at ha
      unfold rdCb at ha
      split at ha
      ·rename_i g r
       split at ha
       ·rename_i xs hm
        cases hb:Nat.beq f0 g
        ·rw[hb] at ha; cases ha
        rw[hb,z0f] at ha
        obtain rfl:=z0b hb
        split at ha
        ·rename_i p' q' as0 hr
         split at ha
         ·rename_i p2 as1 hn
          cases ha
          have:=a4d hn (fun x hx=>hp1 x (z0n.2 (.inr hx)))
          subst this
          have hfi:f i=some r:=by have:=hf1 0 (some r) rfl; simpa using this
          obtain⟨e1,e2,e3,e4,e5⟩:=a5l hr (fun x hx=>hp1 x (z0n.2 (.inl hx))) f (i + 1) (fun j q' hq=>by rw[z2v,Nat.add_comm 1]; exact hf1 (j + 1) q' (by simpa [a3e] using hq))
          refine⟨.old (a4a (i + 1) as1) :: z5 as1,.fn f0 [.ptr i 0],fun s=>⟨by rw[z1g,a22]; rfl,by rw[z1g,a22]; rfl⟩,by simp[a3e,e1],fun ρ u hu=>?_,?_,by simp only[a0f]; exact e4,fun j k0 hj=>?_⟩
          ·obtain⟨ws,rfl,hws⟩:=hu.fn_inv
           obtain⟨w1,us,rfl,d1,hws⟩:=hws.inv
           obtain rfl:=hws.inv_nil
           obtain⟨b,c,hb1,rfl⟩:=d1.ptr_inv
           have:=DenL.cons (ρ:=t5 f ρ) (.ptr (r:=i) (off:=0) (c:=c) (by simp only[t5,hfi]; exact hb1)) (DenL.nil _)
           exact .fn this.1 this.2
          ·simp only[SV.ltB,ltL,z0u,z1g,z1x]; omega
          ·cases j with
           | zero =>
            simp at hj
            subst hj
            exact .inr (.inr ⟨r,xs,_,hfi,p9 hm,rfl,a3s (by simp; omega) _ e3,fun ρ vs hd=>e2 ρ vs hd⟩)
           | succ j =>
            have:=(e5 j k0 (by simpa using hj)).imp id (Or.inl (b:=∃ r cs cs',f (i + 1 + j)=some r∧m[r]?=some (.cells cs)∧k0=.old cs'∧ltL cs' (i + (MBlk.old (a4a (i + 1) as1) :: z5 as1).length)=true∧∀ ρ vs,DenL ρ cs vs→DenL (t5 f ρ) cs' vs))
            rw[show i + 1 + j=i + (j + 1) by omega] at this
            exact this
         ·cases ha
        ·cases ha
       ·cases ha
      ·cases ha
     | fc f0 =>
      simp only[rdP] at ha
      unfold rdFc at ha
      split at ha
      ·rename_i g
       cases hb:Nat.beq f0 g
       ·rw[hb] at ha; cases ha
       rw[hb,z0f] at ha
       obtain rfl:=z0b hb
       cases ha
       refine⟨[],.fn f0 [],fun r=>⟨rfl,rfl⟩,rfl,fun ρ u hu=>?_,rfl,rfl,fun j k0 hj=>(by simp at hj)⟩
       obtain⟨ws,rfl,hws⟩:=hu.fn_inv
       obtain rfl:=hws.inv_nil
       exact .fn rfl (fun j x u hx=>by simp at hx)
      ·cases ha
     | st =>
      cases v <;> simp only[rdP] at ha <;> try cases ha
      rename_i x
      cases x <;> simp only[rdP] at ha <;> try cases ha
      rename_i s
      exact⟨[],.v (.string s),fun r=>⟨rfl,rfl⟩,rfl,fun ρ u hu=>(by cases hu; exact .v _),rfl,rfl,fun j k0 hj=>(by simp at hj)⟩
     | c =>
      cases v <;> simp only[rdP] at ha <;> try cases ha
      rename_i q n
      cases q <;> simp only[rdP] at ha <;> try cases ha
      exact⟨[],.i .u8 n,fun r=>⟨rfl,rfl⟩,rfl,fun ρ u hu=>(by rw[hu.i_inv]; exact .i _ _),rfl,rfl,fun j k0 hj=>(by simp at hj)⟩
    obtain⟨mm,xs,h3,h4,h5,h6,h7,h8⟩:=one
    obtain⟨r1,r2⟩:=h3 as'
    obtain⟨g1,g2,g3,g4,g5⟩:=ih has (fun x hx=>hp x (z0n.2 (.inr hx))) f (i + mm.length) (fun j q' hq=>by
     have:=hf ((a3e q).length + j) q' (by rw[z1c (by omega),Nat.add_sub_cancel_left]; exact hq)
     rw[h4,z2v]; exact this)
    rw[r1,r2]
    refine⟨by simp[g1,← h4],fun ρ ys hd=>?_,?_,b5i h7 g4,fun j k0 hk=>?_⟩
    ·obtain⟨u,us,rfl,d1,d2⟩:=hd.inv
     exact DenL.cons (h5 ρ u d1) (g2 ρ us d2)
    ·simp only[ltL,z0d,z1b]
     exact⟨b8i (by omega) _ h6,by rw[← z2v]; exact g3⟩
    ·by_cases hj:j < mm.length
     ·rw[z0t hj] at hk
      exact(h8 j k0 hk).mono (by simp)
     ·rw[z1c (by omega)] at hk
      have:=g5 _ k0 hk
      rw[show i + mm.length + (j - mm.length)=i + j by omega] at this
      exact this.mono (by simp; omega)
   ·cases h
section
variable {P:Program} {E:Els} {G:List (Nat × Nat)} {fid:FuncId} {fn:Func}
theorem c0i {gb:Option (Nat × MBlk)} {nm:List (Option AV)} {ks:List PK} {S:List PV→Option (List Prop × QV)} (hfn:P.funcs[fid]?=some fn) (hok:o8 P fid) (hG:∀ g k,gb=some (g,k)→G=[(g,0)]∧a0f [k]=true∧w7 k k) (hres:∀ as pre rv,S as=some (pre,rv)→rv.ok=true∧(∀ t a,rv=.rv (.sl t a)→a.cols≠[]))
  (hv:∀ as pre rv,S as=some (pre,rv)→(∀ p∈pre,p)→∃(T:Tab) (_:TabOk P T),T.globals=gbG gb∧T.pins=[]∧n9 T fn (a77 (gbN gb) as) (gbM gb ++ a1u (gbN gb) as) (rv.post E)):CallOk P G fid (n8 E gb nm ks S):=by
 refine b2e hfn hok fun m vs ar h hp=>?_
 unfold n8 at h
 split at h
 ·rename_i p1 qs as hr
  split at h
  ·rename_i p3 rv hS
   split at h
   ·rename_i p4 rv' hrv
    cases h
    have hpre:(rv'.ar E m.length (gbP gb m ++ (p1 ++ (p3 ++ p4)))).pre=gbP gb m ++ (p1 ++ (p3 ++ p4)):=by rcases rv' with r | _ | _; cases r <;> rfl; rfl; rfl
    rw[hpre] at hp
    have hp0:∀ p∈gbP gb m,p:=fun p h=>hp p (by simp[h])
    have hp1:∀ p∈p1,p:=fun p h=>hp p (by simp[h])
    have hp3:∀ p∈p3,p:=fun p h=>hp p (by simp[h])
    have hp4:∀ p∈p4,p:=fun p h=>hp p (by simp[h])
    have hrv2:rv'=rv:=by
     cases rv with
     | rv r =>
      simp only[c2i] at hrv
      split at hrv
      ·rename_i p r' hn
       cases hrv
       rw[b8n hn hp4]
      ·cases hrv
     | gr err es rf mo=>simp only[c2i,z0a,z0g] at hrv; exact hrv.2.symm
     | m1 k k' f=>simp only[c2i,z0a,z0g] at hrv; exact hrv.2.symm
    subst hrv2
    obtain⟨T,hT,hg,hpn,hvc⟩:=hv _ _ _ hS hp3
    let sel:Nat→Option Nat:=fun i=>match gb with
     | some _=>(match i with | 0=>some 0 | i + 1=>b8 none (a3e qs) i)
     | none=>b8 none (a3e qs) i
    have hf:∀ j q,(a3e qs)[j]?=some q→sel (gbN gb + j)=q:=fun j q hq=>by
     have hj:=(z0c.1 hq).1
     have:b8 none (a3e qs) j=q:=by
      rw[s9 none _ _ hj]
      rw[z0i hj] at hq
      exact Option.some.inj hq
     cases gb with
     | none=>simpa [sel,gbN] using this
     | some x=>simp only[sel,gbN]; rw[Nat.add_comm 1 j]; exact this
    obtain⟨_,h1,h2,h3,h4⟩:=d07 hr hp1 sel (gbN gb) hf
    obtain⟨o1,o2⟩:=hres _ _ _ hS
    have hlen:(gbM gb ++ a1u (gbN gb) as).length=gbN gb + (a1u (gbN gb) as).length:=by cases gb <;> simp[gbM,gbN]; omega
    refine⟨T,hT,sel,gbM gb ++ a1u (gbN gb) as,a77 (gbN gb) as,fun ρ xs hd=>h1 ρ xs hd,by rw[hlen]; exact h2,?_,fun i k0 hk=>?_,fun g i hi=>?_,hpn,?_⟩
    ·cases hgb:gb with
     | none=>subst hgb; exact h3
     | some x=>subst hgb; exact b5i (hG x.1 x.2 rfl).2.1 h3
    ·by_cases hi:i < gbN gb
     ·cases hgb:gb with
      | none=>rw[hgb] at hi; exact absurd hi (z1l _)
      | some x =>
       subst hgb
       have hi0:i=0:=by simp only[gbN] at hi; omega
       subst hi0
       simp only[gbM,List.cons_append,z3c,z0a] at hk
       subst hk
       exact .inl ⟨0,x.2,rfl,p9 (hp0 _ (by simp[gbP])),(hG x.1 x.2 rfl).2.2⟩
     ·have hm:(gbM gb).length=gbN gb:=by cases gb <;> rfl
      rw[z1c (by omega),hm] at hk
      have:=h4 _ k0 hk
      rw[show gbN gb + (i - gbN gb)=i by omega] at this
      rw[hlen]
      exact this
    ·rw[hg] at hi
     cases hgb:gb with
     | none=>subst hgb; cases hi
     | some x =>
      subst hgb
      simp only[gbG,g7] at hi
      cases hxg:Nat.beq x.1 g
      ·rw[hxg] at hi; cases hi
      ·rw[hxg] at hi
       simp only[z0f,z0a] at hi
       subst hi
       refine⟨by simp[gbM],0,rfl,?_⟩
       rw[(hG x.1 x.2 rfl).1]
       simp only[g7,hxg,z0f]
    ·cases rv' with
     | gr err es rf mo=>exact .inr (.inr (.inr ⟨_,fun b=>d3i err b es.length rf.length mo.length,d05 (by simp[g9]) (by simp[j6]) (by simp[l4]),rfl,hvc⟩))
     | m1 k k' f=>exact .inr (.inr (.inr ⟨c2o k k' f,fun n=>.mp n,d06,rfl,hvc⟩))
     | rv r =>
      cases r with
      | pl x=>exact .inl ⟨rfl,o1,hvc⟩
      | sl t a=>exact .inr (.inl ⟨t a.len,a.el E,a.len,a.cols,o1,List.length_pos_iff.2 (o2 t a rfl),rfl,rfl,hvc⟩)
      | mp f=>exact .inr (.inr (.inl ⟨f,rfl,rfl,hvc⟩))
      | tw x y z l =>
       simp only[QV.ok,RV.ok,z0d] at o1
       exact .inr (.inr (.inr ⟨_,fun n=>.tup [x,.agg [.sl (n + 1) l.length,.sl n l.length,z],y],b93 o1.1.1 o1.1.2 o1.2 (by simp[j6]),rfl,hvc⟩))
      | mi k k' f x=>exact .inr (.inr (.inr ⟨a9k k k' f x,fun n=>.tup [.mp n,x],b5o o1,rfl,hvc⟩))
   ·cases h
  ·cases h
 ·cases h
end
end Go.Proofs.YtaeeaniofljmnaaGreatDoor.Sx

/-
  A part of the proof (Yx9).
-/
import Derived.Test.YtaeeaniofljmnaaGreatDoorYx8
namespace Go.Proofs.YtaeeaniofljmnaaGreatDoor.Sx
set_option linter.unusedSimpArgs false
set_option linter.unusedVariables false
open Go Go.RowKit
theorem d3c {l:List Oper} {an:List Nat} (han:an=u5 l []) {j aj:Nat} (h:an[j]?=some aj):∃ o,l[j]?=some o∧aj=a7r (an.take j) o.after.toList:=by
 obtain⟨hl,_,h3⟩:=x9 l []
 have hjl:j < l.length:=by
  have:=(z0c.1 h).1
  rw[han,hl] at this
  simpa using this
 have h4:=h3 j _ (z0i hjl)
 simp only[z3a,z1d] at h4
 rw[← han,h] at h4
 exact⟨_,z0i hjl,by simpa using h4⟩
theorem b67 {l:List Oper} {an:List Nat} (han:an=u5 l []) (hed:z8 0 l=true):∀(j aj:Nat),an[j]?=some aj→∀ k,Nat.testBit aj k=true→k < j:=by
 intro j
 induction j using Nat.strongRecOn with
 | _ j ih =>
  intro aj h k hk
  obtain⟨o,ho,rfl⟩:=d3c han h
  obtain⟨e,he,hb,hor⟩:=b4y.1 hk
  have hlt:=a0n (a0o hed ho) he hb
  simp only[z1d] at hlt
  rcases hor with rfl | ⟨x,hx,hxk⟩
  ·exact hlt
  ·rw[z1u,if_pos hlt] at hx
   have:=ih e.on hlt x hx k hxk
   omega
section
variable {P:Program} {T:Tab} {B:Lim} {w0:World}
theorem d3v {ops:Array Oper} {Q:Exit→Act→World→Prop} {an:List Nat} (hT:TabOk P T) (han:an=u5 ops.toList []) (hed:z8 0 ops.toList=true) {n0:Nat} (htl:a3z n0 (a12 n0 an)=true) :
  ∀(l:List Oper) (b:Nat) (s s':St) (ps:List Prop) (fuel:Nat) (listed:Array Bool) (ρ:Env) (a:Act) (W:World),n0≤b→b≤ops.toList.length→l=ops.toList.drop b→c1l T ops.toList l s=some (ps,s')→(∀ p∈ps,p) →
   Rel T B w0 ρ s.slots s.mem a W→listed.size=ops.toList.length→(∀ j,j < ops.toList.length→(listed.getD j false=true↔j < b))→ops.toList.length≤fuel + b →
   (∀ ρ a W,Rel T B w0 ρ (clean s'.slots) s'.mem a W→Q .normal a W)→wpAny P .any ops Q fuel listed a W:=by
 intro l
 induction l with
 | nil =>
  intro b s s' ps fuel listed ρ a W h0 hbl hl h _ hr hsz hls _ hQ
  simp only[c1l,z0a,z0g] at h
  obtain⟨rfl,rfl⟩:=h
  have hb:b=ops.toList.length:=by
   have:(ops.toList.drop b).length=0:=by rw[← hl]; rfl
   rw[z3u] at this
   omega
  have hnone:Region.ready .any ops listed=[]:=by
   apply z2t.2
   intro i hi
   obtain⟨h1,o,ho,_⟩:=mem_ready.1 hi
   have hil:i < ops.toList.length:=by
    have:=(z0j.1 ho).1
    simpa using this
   rw[m4 (by omega),(hls i hil).2 (by omega)] at h1
   cases h1
  have hfin:=hQ ρ a W ⟨hr.fr.clean,hr.mr,hr.gl,hr.df⟩
  cases fuel with
  | zero=>exact⟨hnone,hfin⟩
  | succ f=>exact⟨fun _=>hfin,fun i hi=>by rw[hnone] at hi; cases hi⟩
 | cons o l ih =>
  intro b s s' ps fuel listed ρ a W h0 hbl hl h hp hr hsz hls hfu hQ
  have hb:b < ops.toList.length:=by
   have:(ops.toList.drop b).length=l.length + 1:=by rw[← hl]; rfl
   rw[z3u] at this
   omega
  have ho:ops.toList[b]?=some o:=by
   have:(ops.toList.drop b)[0]?=some o:=by rw[← hl]; rfl
   simpa using this
  have hl':l=ops.toList.drop (b + 1):=by
   have:(ops.toList.drop b).drop 1=l:=by rw[← hl]; rfl
   rw[← this,List.drop_drop]
  have hanl:an.length=ops.toList.length:=by rw[han]; have:=(x9 ops.toList []).1; simpa using this
  have hcl:∀ j aj,an[j]?=some aj→listed.getD j true=true→∀ k,Nat.testBit aj k=true→listed.getD k false=true:=fun j aj haj hlj k hk=>by
   have hjl:j < ops.toList.length:=by
    have:=(z0c.1 haj).1
    omega
   rw[m4 (by omega)] at hlj
   have h1:=(hls j hjl).1 hlj
   have h2:=b67 han hed j aj haj k hk
   exact(hls k (by omega)).2 (by omega)
  have honly:∀ i∈Region.ready .any ops listed,i=b:=fun i hi=>by
   obtain⟨h1,o',ho',_⟩:=mem_ready.1 hi
   have hil:i < ops.toList.length:=by
    have:=(z0j.1 ho').1
    simpa using this
   have hib:¬ i < b:=fun hib=>by
    rw[m4 (by omega),(hls i hil).2 hib] at h1
    cases h1
   refine Classical.byContradiction fun hne=>?_
   obtain⟨ai,hai⟩:∃ ai,an[i]?=some ai:=⟨_,z0i (by omega)⟩
   have hd:(a12 n0 an)[i - n0]?=some ai:=by
    rw[a3o,z1n,show n0 + (i - n0)=i by omega]
    exact hai
   have:=a3f han hed hcl hsz hi hai b (a68 htl hd b (by omega))
   have:=(hls b hb).1 this
   omega
  have ho2:ops[b]?=some o:=by simpa using ho
  have hnext:∀ j,j < ops.toList.length→((listed.setIfInBounds b true).getD j false=true↔j < b + 1):=fun j hj=>by
   by_cases e:j=b
   ·subst e
    have hlt:j < listed.size:=by omega
    simp[hlt]
   ·rw[getD_set_ne false (Ne.symm e),hls j hj]
    omega
  have hstep:∀ f,ops.toList.length≤f + (b + 1)→if Region.wanted o (yielded ops a.tmps) then o.wp P a W (wpAny P .any ops Q f (listed.setIfInBounds b true)) Q else wpAny P .any ops Q f (listed.setIfInBounds b true) (a.put o.dst undef) W:=fun f hf=>by
   simp only[c1l] at h
   split at h
   ·rename_i ps1 sl1 m1 hA
    split at h
    ·rename_i qs s1 hrest
     simp only[z0a,z0g] at h
     obtain⟨rfl,rfl⟩:=h
     exact b1t (P:=P) (ops:=ops) (Q:=Q) (K:=wpAny P .any ops Q f (listed.setIfInBounds b true)) hT hr hA (fun p h=>hp p (z0n.2 (.inl h))) fun ρ' a' W' hr' =>
      ih (b + 1) ⟨sl1,m1,s.dirty⟩ s1 qs f _ ρ' a' W' (by omega) (by omega) hl' hrest (fun p h=>hp p (z0n.2 (.inr h))) hr' (by simpa using hsz) hnext hf hQ
    ·cases h
   ·split at h
    ·rename_i ps1 sl1 m1 ds hB
     split at h
     ·rename_i qs s1 hrest
      simp only[z0a,z0g] at h
      obtain⟨rfl,rfl⟩:=h
      exact b1u (P:=P) (ops:=ops) (Q:=Q) (K:=wpAny P .any ops Q f (listed.setIfInBounds b true)) hT hr hB (fun p h=>hp p (z0n.2 (.inl h))) fun ρ' a' W' hr' =>
       ih (b + 1) ⟨sl1,m1,ds ++ s.dirty⟩ s1 qs f _ ρ' a' W' (by omega) (by omega) hl' hrest (fun p h=>hp p (z0n.2 (.inr h))) hr' (by simpa using hsz) hnext hf hQ
     ·cases h
    ·cases h
  have step:∀(f:Nat),ops.toList.length≤f + (b + 1)→∀ i∈Region.ready .any ops listed,wpOp P ops Q i (wpAny P .any ops Q f (listed.setIfInBounds i true)) a W:=fun f hf i hi=>by
   obtain rfl:=honly i hi
   have key:=hstep f hf
   unfold wpOp
   simp only[ho2]
   split
   ·rename_i hw
    rw[if_pos hw] at key
    exact .inl key
   ·rename_i hw
    rw[if_neg hw] at key
    exact key
  have hne:Region.ready .any ops listed≠[]:=fun hn=>by
   have hmem:b∈Region.ready .any ops listed:=mem_ready.2 ⟨by
    have:¬ listed.getD b false=true:=fun hh=>by have:=(hls b hb).1 hh; omega
    rw[m4 (by omega)]
    exact z0z.2 this,o,ho2,fun e he hbb=>by
     have:=a0n (a0o hed ho) (e:=e) (by simpa using he) hbb
     exact(hls e.on (by omega)).2 (by omega)⟩
   rw[hn] at hmem
   cases hmem
  cases fuel with
  | zero=>omega
  | succ f=>exact⟨fun hn=>absurd hn hne,step f (by omega)⟩
theorem b2o {l:Array Bool} {n:Nat} (hn:l.size=n):l.toList.count true≤n∧((∃ j,j < n∧l.getD j false=false)→l.toList.count true < n):=by
 have h1:l.toList.count true≤l.toList.length:=List.count_le_length
 have h2:l.toList.length=n:=by simpa using hn
 refine⟨by omega,?_⟩
 rintro ⟨j,hj,hf⟩
 refine Classical.byContradiction fun hc=>?_
 have he:l.toList.count true=l.toList.length:=by omega
 have hall:=List.count_eq_length.1 he
 have hjs:j < l.size:=by omega
 have:=hall l[j] (by simp)
 simp[hjs] at hf
 rw[hf] at this
 cases this
theorem a8v {l:Array Bool} {i:Nat} (hi:i < l.size) (hf:l.getD i false=false):(l.setIfInBounds i true).toList.count true=l.toList.count true + 1:=by
 have hil:i < l.toList.length:=by simpa using hi
 simp[hi] at hf
 rw[Array.toList_setIfInBounds,List.count_set hil]
 have:l.toList[i]=false:=by simpa using hf
 simp[this]
theorem c9z {ops:Array Oper} {Q:Exit→Act→World→Prop} {an:List Nat} {S:Nat→List Slot} {M:Nat→List MBlk} {p:Nat→List Prop} {ls:List (List Nat)} (hT:TabOk P T)
  (han:an=u5 ops.toList []) (hed:z8 0 ops.toList=true) (hlk:a04 ops.toList an 0 ls an=true) (hcln:a0c (S 0)=true) (hpre:Pre ops.toList S ls.length)
  (hst:∀ i,i < ls.length→∃ o,ops.toList[i]?=some o∧opA T ops.toList (S i) (M i) o=some (p i,S (i + 1),M (i + 1))∧ls[i]?=some (y8 (S i) ops.toList o)) (hle:ls.length≤ops.toList.length) (hps:∀ i,i < ls.length→∀ q∈p i,q)
  (htl:a3z ls.length (a12 ls.length an)=true) (hfin:∀(fuel:Nat) (listed:Array Bool) (ρ:Env) (a:Act) (W:World),Rel T B w0 ρ (S ls.length) (M ls.length) a W→listed.size=ops.toList.length→(∀ j,j < ops.toList.length→(listed.getD j false=true↔j < ls.length))→ops.toList.length≤fuel + ls.length→wpAny P .any ops Q fuel listed a W) :
  ∀(fuel:Nat) (listed:Array Bool) (a:Act) (W:World),Inv T B w0 ops.toList an S M ls.length listed a W→ops.toList.length≤fuel + listed.toList.count true→wpAny P .any ops Q fuel listed a W:=by
 have hanl:an.length=ops.toList.length:=by rw[han]; have:=(x9 ops.toList []).1; simpa using this
 intro fuel
 induction fuel with
 | zero =>
  intro listed a W hI hf
  exact done 0 listed a W hI (by
   have h1:listed.toList.count true≤ls.length:=cntle listed hI
   omega) (fun j hj=>Classical.byContradiction fun hne=>by
   have:=(b2o hI.size).2 ⟨j,by omega,z0z.2 hne⟩
   omega)
 | succ fuel ih =>
  intro listed a W hI hf
  by_cases hall:∀ j,j < ls.length→listed.getD j false=true
  ·exact done (fuel + 1) listed a W hI (by
    have h1:listed.toList.count true≤ls.length:=cntle listed hI
    omega) hall
  ·obtain⟨j,hj⟩:=Classical.not_forall.1 hall
   have hjn:j < ls.length:=Classical.byContradiction fun h=>hj (fun h'=>absurd h' h)
   have hjf:listed.getD j false=false:=z0z.2 fun h=>hj (fun _=>h)
   refine⟨fun hn=>?_,fun i hi=>?_⟩
   ·
    have least:∀ k,k < ls.length→listed.getD k false=true:=by
     intro k
     induction k using Nat.strongRecOn with
     | _ k ihk =>
      intro hk
      refine Classical.byContradiction fun hkf=>?_
      obtain⟨o,ho,_⟩:=hst k hk
      have:k∈Region.ready .any ops listed:=mem_ready.2 ⟨by rw[m4 (by rw[hI.size]; omega)]; exact z0z.2 hkf,o,by simpa using ho,fun e he hbb=>by
       have:=a0n (a0o hed ho) (e:=e) (by simpa using he) hbb
       exact ihk e.on (by omega) (by omega)⟩
      rw[hn] at this
      cases this
    rw[least j hjn] at hjf
    cases hjf
   ·obtain⟨h1,o',ho',_⟩:=mem_ready.1 hi
    have hil:i < ops.toList.length:=by
     have:=(z0j.1 ho').1
     simpa using this
    have hin:i < ls.length:=Classical.byContradiction fun hne=>by
     obtain⟨ai,hai⟩:∃ ai,an[i]?=some ai:=⟨_,z0i (by omega)⟩
     have hd:(a12 ls.length an)[i - ls.length]?=some ai:=by
      rw[a3o,z1n,show ls.length + (i - ls.length)=i by omega]
      exact hai
     have:=a3f han hed hI.closed hI.size hi hai j (a68 htl hd j (by omega))
     rw[this] at hjf
     cases hjf
    refine b31 hT han hed hlk hcln hpre hst hle hps hI hin hi fun a' W' hI'=>ih _ a' W' hI' ?_
    rw[a8v (by rw[hI.size]; omega) (by rw[← m4 (by rw[hI.size]; omega)]; exact h1)]
    omega
where
 cntle (listed:Array Bool) {a:Act} {W:World} (hI:Inv T B w0 ops.toList an S M ls.length listed a W):listed.toList.count true≤ls.length:=by
  have e:listed.toList.count true=(listed.toList.take ls.length).count true + (listed.toList.drop ls.length).count true:=by
   rw[← List.count_append,z2w]
  have h0:(listed.toList.drop ls.length).count true=0:=by
   rw[List.count_eq_zero]
   intro hm
   obtain⟨j,hj⟩:=z3m.1 hm
   rw[z1n] at hj
   have hlt:=(z0c.1 hj).1
   have hsz:listed.toList.length=ops.toList.length:=by rw[← hI.size]; simp
   have:=hI.tail (ls.length + j) (by omega) (by omega)
   simp at hj
   simp[hj] at this
  have h1:(listed.toList.take ls.length).count true≤(listed.toList.take ls.length).length:=List.count_le_length
  rw[List.length_take] at h1
  omega
 done (fuel:Nat) (listed:Array Bool) (a:Act) (W:World) (hI:Inv T B w0 ops.toList an S M ls.length listed a W) (hf:ops.toList.length≤fuel + ls.length) (hall:∀ j,j < ls.length→listed.getD j false=true):wpAny P .any ops Q fuel listed a W:=by
  obtain⟨ρ,hsz,hcur,hmr,hgl,hdf,_⟩:=hI.rel
  have hiff:∀ j,j < ops.toList.length→(listed.getD j false=true↔j < ls.length):=by
   intro j hj
   constructor
   ·intro h
    refine Classical.byContradiction fun hne=>?_
    have:=hI.tail j (by omega) hj
    rw[m4 (by rw[hI.size]; exact hj),h] at this
    cases this
   ·exact hall j
  refine hfin fuel listed ρ a W ⟨⟨by rw[hpre.len _ (z0q _),hsz],fun d s hs=>hcur d s ?_⟩,hmr,hgl,hdf⟩ hI.size hiff hf
  by_cases hw:∃ j oj,j < ls.length∧ops.toList[j]?=some oj∧oj.dst=some d
  ·obtain⟨j,oj,hjn,hoj,hdj⟩:=hw
   refine .inl ⟨j,oj,hjn,hall j hjn,hoj,hdj,?_⟩
   rw[← hs]
   exact(hpre.keep (j + 1) ls.length (by omega) (z0q _) fun k ok hk hki hok hdk=>by
    have:=a2g hpre.dsts hoj hok hdj hdk
    omega).symm
  ·refine .inr ⟨fun j oj hjn _ hoj hdj=>hw ⟨j,oj,hjn,hoj,hdj⟩,?_⟩
   rw[← hs]
   exact(hpre.keep 0 ls.length (by omega) (z0q _) fun k ok _ hki hok hdk=>hw ⟨k,ok,hki,hok,hdk⟩).symm
theorem d3u {ops:Array Oper} {Q:Exit→Act→World→Prop} {an:List Nat} {S:Nat→List Slot} {M:Nat→List MBlk} {p:Nat→List Prop} {ls:List (List Nat)} {s':St} {dirty:List Nat} {ps:List Prop} (hT:TabOk P T)
  (han:an=u5 ops.toList []) (hed:z8 0 ops.toList=true) (hlk:a04 ops.toList an 0 ls an=true) (hcln:a0c (S 0)=true) (hpre:Pre ops.toList S ls.length)
  (hst:∀ i,i < ls.length→∃ o,ops.toList[i]?=some o∧opA T ops.toList (S i) (M i) o=some (p i,S (i + 1),M (i + 1))∧ls[i]?=some (y8 (S i) ops.toList o)) (hle:ls.length≤ops.toList.length) (hps:∀ i,i < ls.length→∀ q∈p i,q)
  (htl:a3z ls.length (a12 ls.length an)=true) (hB:c1l T ops.toList (ops.toList.drop ls.length) ⟨S ls.length,M ls.length,dirty⟩=some (ps,s')) (hp:∀ q∈ps,q) (hQ:∀ ρ a W,Rel T B w0 ρ (clean s'.slots) s'.mem a W→Q .normal a W) :
  ∀(fuel:Nat) (listed:Array Bool) (a:Act) (W:World),Inv T B w0 ops.toList an S M ls.length listed a W→ops.toList.length≤fuel + listed.toList.count true→wpAny P .any ops Q fuel listed a W:=
 c9z hT han hed hlk hcln hpre hst hle hps htl fun fuel listed ρ a W hr hsz hls hfu=>d3v hT han hed htl _ ls.length ⟨S ls.length,M ls.length,dirty⟩ s' ps fuel listed ρ a W (z0q _) hle rfl hB hp hr hsz hls hfu hQ
theorem MR.pre {W:World} {ρ:Env} {m:List MBlk} (h:MR B w0 W ρ m) (tl:List MBlk):MR B w0 W ρ (m ++ tl):=by
 refine⟨h.sub,h.rows,h.hS,h.below,fun r k hk hr=>?_,fun r hr=>?_,fun r g hx=>by obtain⟨h1,h2,h3⟩:=h.xlt r g hx; exact⟨by simp; omega,h2,h3⟩,h.xsep,fun r g s k a c hx hk ho hs=>?_,fun r s k l a b c d hk hl h1 h2 h3 h4 h5=>?_⟩
 ·rw[z0t (h.dom r hr)] at hk
  exact h.blk r k hk hr
 ·have:=h.dom r hr
  simp
  omega
 ·rw[z0t (h.dom s (by rw[hs]; simp))] at hk
  exact h.xown r g s k a c hx hk ho hs
 ·rw[z0t (h.dom r (by rw[h3]; simp))] at hk
  rw[z0t (h.dom s (by rw[h4]; simp))] at hl
  exact h.sep r s k l a b c d hk hl h1 h2 h3 h4 h5
theorem a6d {ops:Array Oper} {Q:Exit→Act→World→Prop} {s s':St} {ps:List Prop} {ρ:Env} {a:Act} {W:World} (hT:TabOk P T) (h:b6d T ops.toList s=some (ps,s')) (hp:∀ p∈ps,p) (hr:Rel T B w0 ρ s.slots s.mem a W)
  (hQ:∀ ρ a W,Rel T B w0 ρ s'.slots s'.mem a W→Q .normal a W):wpAny P .any ops Q ops.size (Array.replicate ops.size false) a { W with drawn:=W.drawn + 1 }:=by
 unfold b6d at h
 generalize hA:b0n T ops.toList ops.toList s.slots s.mem=res at h
 obtain⟨ps1,sl1,m1,ls,r⟩:=res
 simp only at h
 cases hc:(a0c s.slots && z8 0 ops.toList && a4z ops.toList && a04 ops.toList (u5 ops.toList []) 0 ls (u5 ops.toList []) && a3z ls.length (a12 ls.length (u5 ops.toList [])))
 ·simp[hc] at h
 ·rw[hc] at h
  simp only[z0f] at h
  simp only[z0d] at hc
  obtain⟨⟨⟨⟨hcln,hed⟩,hds⟩,hlk⟩,htl⟩:=hc
  split at h
  ·rename_i qs s1 hB
   simp only[z0a,z0g] at h
   obtain⟨rfl,rfl⟩:=h
   obtain⟨S,M,p,h1,h2,h3,h4,h5,h6,h7⟩:=a8n _ _ _ _ _ _ _ _ hA
   have hanl:(u5 ops.toList []).length=ops.toList.length:=by have:=(x9 ops.toList []).1; simpa using this
   have hst:∀ i,i < ls.length→∃ o,ops.toList[i]?=some o∧opA T ops.toList (S i) (M i) o=some (p i,S (i + 1),M (i + 1))∧ls[i]?=some (y8 (S i) ops.toList o):=fun i hi=>by
    obtain⟨o,k1,k2,k3,_⟩:=h7 i hi
    exact⟨o,k1,k2,k3⟩
   have hps:∀ i,i < ls.length→∀ q∈p i,q:=fun i hi q hq=>by
    obtain⟨o,_,_,_,k4⟩:=h7 i hi
    exact hp q (z0n.2 (.inl (k4 q hq)))
   have hpre:Pre ops.toList S ls.length:=⟨fun i hi=>by
     obtain⟨o,k1,k2,_⟩:=hst i hi
     obtain⟨s,hs⟩:=(a0l k2).2.1
     exact⟨o,s,k1,hs⟩,fun i hi o ho=>by
     obtain⟨o',k1,k2,_⟩:=hst i hi
     rw[ho] at k1
     simp only[z0a] at k1
     subst k1
     exact(a0l k2).2.2,hds⟩
   have hrep:∀ j,(Array.replicate ops.size false).getD j false=false:=fun j=>by
    simp[Array.getElem?_replicate]
    split <;> rfl
   have hrep2:∀ j,j < ops.toList.length→(Array.replicate ops.size false).getD j true=false:=fun j hj=>by
    rw[m4 (by simpa using hj)]
    exact hrep j
   have hBel:Below W.heap.size W { W with drawn:=W.drawn + 1 }:=⟨rfl,rfl,rfl,z0q _,fun _ _=>rfl⟩
   have hMn:∀ j,j < ls.length→∃ new,M (j + 1)=M j ++ new:=fun j hj=>by
    obtain⟨oj,_,hAj,_⟩:=hst j hj
    exact(a0l hAj).1
   obtain⟨tl,htl0⟩:=a84 hMn 0 ls.length (by omega) (z0q _)
   have hge:∀ j,j≤ls.length→(M 0).length≤(M j).length:=fun j hj=>by
    obtain⟨n1,e1⟩:=a84 hMn 0 j (by omega) hj
    rw[e1]; simp
   skip
   refine d3u (p:=p) (w0:=w0) (dirty:=s.dirty) hT rfl hed hlk (by rw[h1]; exact hcln) hpre hst h6 hps htl (by rw[h3,h4,← h5]; exact hB) (fun q hq=>hp q (z0n.2 (.inr hq))) hQ _ _ _ _ ⟨by simp,fun j aj haj hlj=>?_,fun j _ hjl=>hrep2 j hjl,ρ,by rw[h1]; exact hr.fr.len.symm,fun d sd hcd=>?_,?_,hr.gl,hr.df,fun i hi _ r hr1 _=>?_⟩ (by simp)
   ·have:=(z0c.1 haj).1
    rw[hrep2 j (by omega)] at hlj
    cases hlj
   ·rcases hcd with⟨j,oj,hjn,hlj,_⟩ | ⟨_,hs0⟩
    ·simp only[hrep j] at hlj
     cases hlj
    ·rw[h1] at hs0
     exact hr.fr.ok d sd hs0
   ·rw[htl0,h2]
    have:=hr.mr.grow (new:=[]) hBel (fun _ _=>rfl) (.refl _ _ _) (.nil _ _ _ _)
    rw[z1f] at this
    exact this.pre tl
   ·refine Classical.byContradiction fun hne=>?_
    have:=hr.mr.dom r hne
    rw[← h2] at this
    have:=hge i (by omega)
    omega
  ·cases h
theorem b96 {ops:Array Oper} {id:Nat} {Q:Exit→Act→World→Prop} {s s':St} {ps:List Prop} {ρ:Env} {a:Act} {W:World} (hT:TabOk P T) (h:b6d T ops.toList s=some (ps,s')) (hp:∀ p∈ps,p) (hr:Rel T B w0 ρ s.slots s.mem a W)
  (hQ:∀ ρ a W,Rel T B w0 ρ s'.slots s'.mem a W→Q .normal a W):(Code.region id ops true).wp P Q a W:=
 wp_region_any hT.mixed (a6d hT h hp hr hQ)
end
end Go.Proofs.YtaeeaniofljmnaaGreatDoor.Sx

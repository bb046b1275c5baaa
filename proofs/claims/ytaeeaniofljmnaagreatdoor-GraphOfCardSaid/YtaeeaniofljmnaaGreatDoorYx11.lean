/-
  A part of the proof (Yx11).
-/
import Derived.Test.YtaeeaniofljmnaaGreatDoorYx11a
namespace Go.Proofs.YtaeeaniofljmnaaGreatDoor.Sx
set_option linter.unusedSimpArgs false
set_option linter.unusedVariables false
open Go Go.RowKit
section
variable {P:Program}
theorem MR.enter {T:Tab} {B:Lim} {w0 W:World} {ρ:Env} {sl:List Slot} {m:List MBlk} {a:Act} (hr:Rel T B w0 ρ sl m a W) (fn:Nat) (ps:Array Tmp) (assign body:Code) :
  ∃ ρ1:Env,MR B w0 ((W.alloc (.deferred (some []))).alloc (.loop { state:=.ready,pending:=none,fn,tmps:=a.tmps,params:=ps,assign,body,defers:=W.heap.size })) ρ1 (m ++ [.stk (a82 sl) a.tmps.toList,.lup .ready a.tmps.toList ⟨ps,assign,body⟩]) ∧
   (∀ r y,ρ r=some y→ρ1 r=some y)∧ρ1 m.length=some (none,0)∧ρ1 (m.length + 1)=some (some ⟨W.heap.size + 1,0,none⟩,0)∧(∀ g,ρ.S g→ρ1.S g)∧ρ1.S W.heap.size:=by
 generalize hW1:(W.alloc (.deferred (some []))).alloc (.loop { state:=.ready,pending:=none,fn,tmps:=a.tmps,params:=ps,assign,body,defers:=W.heap.size })=W1
 have hsz:W1.heap.size=W.heap.size + 2:=by rw[← hW1]; simp
 have hb:Below W.heap.size W W1:=by
  rw[← hW1]
  exact((Below.refl _ W).alloc (z0q _) _).alloc (by simp) _
 have hL:W1.heap[W.heap.size + 1]?=some (.loop { state:=.ready,pending:=none,fn,tmps:=a.tmps,params:=ps,assign,body,defers:=W.heap.size }):=by
  rw[← hW1]
  have:=World.alloc_heap_new (W.alloc (.deferred (some []))) (.loop { state:=.ready,pending:=none,fn,tmps:=a.tmps,params:=ps,assign,body,defers:=W.heap.size })
  rwa [World.size_alloc] at this
 let ρ1:Env:=⟨fun s=>if s=m.length then some (none,0) else if s=m.length + 1 then some (some ⟨W.heap.size + 1,0,none⟩,0) else ρ s,fun g=>ρ.S g∨g=W.heap.size,ρ.T,ρ.X⟩
 have h0:∀ r,m.length≤r→ρ r=none:=fun r hr'=>Classical.byContradiction fun hne=>by have:=hr.mr.dom _ hne; omega
 have hle:∀ r y,ρ r=some y→ρ1 r=some y:=fun r y hy=>by
  have:r < m.length:=Nat.lt_of_not_le fun h=>by rw[h0 r h] at hy; cases hy
  simp only[ρ1,if_neg (show ¬ r=m.length by omega),if_neg (show ¬ r=m.length + 1 by omega)]
  exact hy
 have e1:ρ1 m.length=some (none,0):=by simp[ρ1]
 have e2:ρ1 (m.length + 1)=some (some ⟨W.heap.size + 1,0,none⟩,0):=by simp[ρ1]
 refine⟨ρ1,hr.mr.grow hb (fun r h=>?_) ⟨fun g h=>.inl h,fun g h=>?_,fun g h=>h,fun g h=>?_,rfl⟩ ⟨fun k b hk _=>?_,fun k b x c hk ho hx=>?_,fun k l b d x y c c' hk hl ho1 ho2 _ _ _=>?_⟩,hle,e1,e2,fun g h=>.inl h,.inr rfl⟩
 ·have h1:r < m.length∨m.length + 2≤r:=h
  simp only[ρ1,if_neg (show ¬ r=m.length by omega),if_neg (show ¬ r=m.length + 1 by omega)]
 ·rcases h with h | h
  ·exact .inl h
  ·exact .inr ⟨by omega,by omega⟩
 ·rcases h with⟨h | h,h'⟩
  ·exact .inl ⟨h,h'⟩
  ·exact .inr (by omega)
 ·match k,hk with
  | 0,hk=>simp at hk; subst hk; exact hr.fr.svs.mono hle
  | 1,hk =>
   simp at hk
   subst hk
   refine⟨W.heap.size + 1,fn,W.heap.size,0,e2,fun h=>?_,?_⟩
   ·rcases h with h | h
    ·have:=hr.mr.hS _ h; omega
    ·omega
   ·rw[hL]; simp[a3c,LSt.st,LSt.pe]
  | k + 2,hk=>simp at hk
 ·match k,hk with
  | 0,hk=>simp at hk; subst hk; cases ho
  | 1,hk =>
   rw[e2] at hx
   simp only[z0a,z0g] at hx
   rw[← hx.1]
   exact Nat.le_succ _
  | k + 2,hk=>simp at hk
 ·match k,l,hk,hl with
  | 0,_,hk,_=>simp at hk; subst hk; cases ho1
  | _,0,_,hl=>simp at hl; subst hl; cases ho2
  | 1,1,_,_=>rfl
  | k + 2,_,hk,_=>simp at hk
  | _,l + 2,_,hl=>simp at hl
theorem c3k {T:Tab} {J:Inl} {b:Nat} {ρ:Env} (h:b27 T b ρ):GlobOk (T.into J b) ρ:=⟨h.1.gl,fun p hp=>by
 rcases z0s.1 hp with rfl | hp
 ·exact h.2
 ·exact h.1.pin p hp⟩
theorem c3j {T:Tab} {J:Inl} {b:Nat} {ρ:Env} (h:GlobOk (T.into J b) ρ):b27 T b ρ:=⟨⟨h.gl,fun p hp=>h.pin p (z0w _ hp)⟩,h.pin (b,(none,0)) z1h⟩
theorem c8t:∀(n:Nat) {T:Tab} {B:Lim} {w0:World} {ro:Option Nat} (hT:TabOk P T) (hm:T.rmode=false→ro=none) (bid:Nat) (c:Code) (s:St) (K:Ex→St→Prop) (ρ:Env) (a:Act) (W:World) (Q:Exit→Act→World→Prop) (N:Nat),vc T n bid c s K→Rel T B w0 ρ s.slots s.mem a W →
  (∀ e s' ρ' a' W',K e s'→Rel T B w0 ρ' s'.slots s'.mem a' W'→Q e.toExit a' W')→c.wpIn (FW ro) N P Q a W:=by
 intro n
 induction n with
 | zero=>intro T B w0 ro _ _ _ _ _ _ _ _ _ _ _ h; exact h.elim
 | succ n ih =>
  intro T B w0 ro hT hm bid c s K ρ a W Q N h hr hQ
  have hI:InlOk P T none (fun ct b vs m R=>match ct with
       | .fn f=>(match g7 T.inl f with
        | some J=>match J.fn.body with
         | some c=>vc (T.into J b) n 0 c ⟨a0k vs J.fn.ntmps,m,[]⟩ (c1e (T.into J b) J.fn.results.toList R)
         | none=>False
        | none=>False)
       | .yl r=>(match T.back with
        | some k=>(match nth m r,nth m k.s with
         | some (.lup .ready us cd),some (.stk cs us')=>bif Nat.beq r k.r then us=k.us∧cd=k.cd∧us'=k.us∧(match b40 k.ps.toList vs cs with
          | some cs'=>vc (T.rnd k b) n 0 k.assign ⟨a11 cs',m,[]⟩ (fun e s1=>match e with
           | .normal=>(match nth s1.mem r with
            | some (.lup .ready us cd)=>us=k.us∧cd=k.cd∧vc (T.rnd k b) n 0 k.body ⟨s1.slots,i4 s1.mem r (.lup .busy us cd),[]⟩ (fun e s2=>match nth s2.mem r with
             | some (.lup .busy us cd)=>us=k.us∧cd=k.cd∧R (jcV e) (i4 s2.mem r (.lup (c62 e) us cd))
             | _=>False)
            | _=>False)
           | _=>False)
          | none=>False) else False
         | _,_=>False)
        | none=>False)):=by
   refine⟨fun B w0 f b J vs m R ρ W xs h hJ hm hG hd=>?_,fun B w0 r b N vs m R ρ W xs g c h hmr hG hd hρ=>?_⟩
   ·simp only[hJ] at h
    have hT':TabOk P (T.into J b):=⟨hT.mixed,hT.types,hT.ints,hT.calls,hT.callsB,hT.inl,fun k hk=>by obtain⟨h1,h2,x,h3⟩:=hT.back k hk; exact⟨h1,z0w _ h2,x,z0w _ h3⟩⟩
    split at h
    ·rename_i c hc
     refine Calls.mono (a89 hT' (hT.inl f J hJ).1 hc (fun a Q hr hQ=>ih hT' (fun _=>rfl) _ _ _ _ ρ a W Q _ h hr hQ) hm (c3k hG) hd) fun e W' ⟨v,ρ',m',sv,h1,h2,h3,h4,h5⟩=>⟨v,ρ',m',sv,h1,h2,h3,h4,c3j h5⟩
    ·exact h.elim
   ·simp only at h
    split at h
    ·rename_i k hk
     obtain⟨hcd,hps,x,hpx⟩:=hT.back k hk
     split at h
     ·rename_i us cd cs us' hmr1 hms
      cases hrk:Nat.beq r k.r
      ·rw[hrk] at h; exact h.elim
      rw[hrk,z0f] at h
      obtain rfl:=z0b hrk
      obtain⟨rfl,rfl,rfl,h⟩:=h
      split at h
      ·rename_i cs' hset
       have hT':TabOk P (T.rnd k b):=⟨hT.mixed,hT.types,hT.ints,hT.calls,hT.callsB,hT.inl,fun k hk=>by cases hk⟩
       have hx:=hG.1.pin _ hpx
       have hadr:∀ ρ':Env,GlobOk T ρ'→ρ' k.r=some (some ⟨g,0,none⟩,c):=fun ρ' hg'=>by rw[hg'.pin _ hpx,← hx]; exact hρ
       obtain⟨g1,fn,D,c1,q1,q2,q3⟩:=hmr.blk k.r _ (p9 hmr1) (by rw[hρ]; simp)
       rw[hρ] at q1
       simp only[z0a,z0g,z2a,and_true] at q1
       obtain⟨rfl,rfl⟩:=q1
       have hst:DenL ρ cs k.us:=hmr.blk k.s _ (p9 hms) (by rw[hG.1.pin _ hps]; simp)
       obtain⟨hlen,hden⟩:=c52 k.ps.toList vs cs cs' xs k.us.toArray hset hd (by simpa using hst)
       have hcd':k.cd.ps=k.ps∧k.cd.assign=k.assign∧k.cd.body=k.body:=by rw[hcd]; exact⟨rfl,rfl,rfl⟩
       have hy:=run_yield (P:=P) (args:=xs.toArray) q3 (by simp only[a3c,hcd'.1]; simpa using hlen.symm)
       simp only[a3c,hcd'.1,hcd'.2.1,hcd'.2.2] at hy
       refine⟨_,_,_,_,hy,?_⟩
       have hglb:∀ ρ':Env,GlobOk (T.rnd k b) ρ'→b27 T b ρ':=fun ρ' hg'=>⟨⟨hg'.gl,fun p hp=>hg'.pin p (z0w _ hp)⟩,hg'.pin (b,(none,0)) z1h⟩
       have hgr:GlobOk (T.rnd k b) ρ:=⟨hG.1.gl,fun p hp=>by
        rcases z0s.1 hp with rfl | hp
        ·exact hG.2
        ·exact hG.1.pin p hp⟩
       refine roundIn_of_wpIn (F:=FW none) (n:=N) trivial (ih (ro:=some g) hT' (fun hh=>by cases hh) 0 k.assign ⟨a11 cs',m,[]⟩ _ ρ _ W _ N h ⟨FR.of_svs (a:={ tmps:=_,defers:=[] }) (by
         have e:(k.ps.zip xs.toArray).foldl (fun t (p:Tmp × Value)=>t.setIfInBounds p.1 p.2) k.us.toArray=(k.ps.toList.zip xs).foldl (fun t (p:Tmp × Value)=>t.setIfInBounds p.1 p.2) k.us.toArray:=by
          rw[← Array.foldl_toList]; simp[Array.toList_zip]
         show DenL ρ cs' ((k.ps.zip xs.toArray).foldl (fun t (p:Tmp × Value)=>t.setIfInBounds p.1 p.2) k.us.toArray).toList
         rw[e]; exact hden),hmr,hgr,.nil rfl⟩ fun e s1 ρ1 a1 W1 hK1 hr1=>?_)
       cases e with
       | ret=>exact hK1.elim
       | exit id=>exact hK1.elim
       | normal =>
        simp only at hK1
        split at hK1
        ·rename_i us1 cd1 hn1
         obtain⟨rfl,rfl,hbody⟩:=hK1
         have hg1:=hglb ρ1 hr1.gl
         obtain⟨g2,fn2,D2,c2,p1,p2,p3⟩:=hr1.mr.blk k.r _ (p9 hn1) (by rw[hadr ρ1 hg1.1]; simp)
         rw[hadr ρ1 hg1.1] at p1
         simp only[z0a,z0g,z2a,and_true] at p1
         obtain⟨rfl,rfl⟩:=p1
         have hbr:=run_beginRound (P:=P) p3 rfl
         refine⟨_,hbr,?_⟩
         have hlt:=(z0j.1 p3).1
         have hm2:MR B w0 (W1.putObj g (.loop (a3c .busy k.us k.cd fn2 D2))) ρ1 (i4 s1.mem k.r (.lup .busy k.us k.cd)):=hr1.mr.lupPut (p9 hn1) (hadr ρ1 hg1.1) ⟨g,fn2,D2,c,hadr ρ1 hg1.1,p2,World.putObj_heap_same hlt⟩
         refine ih (ro:=some g) hT' (fun hh=>by cases hh) 0 k.body _ _ ρ1 a1 _ _ N hbody ⟨hr1.fr,hm2,hr1.gl,?_⟩ fun e s2 ρ2 a2 W2 hK2 hr2=>?_
         ·obtain⟨Ds,d1,d2,d3⟩:=hr1.df
          exact⟨Ds,d1,d2,fun D hD=>by
           obtain⟨z1,z2,z3⟩:=d3 D hD
           exact⟨z1,z2,by
            have hne:D≠g:=fun e=>by rw[e,p3] at z3; cases z3
            exact(World.putObj_heap_other (w:=W1) (o:=.loop (a3c .busy k.us k.cd fn2 D2)) hne).trans z3⟩⟩
         ·split at hK2
          ·rename_i us2 cd2 hn2
           obtain⟨rfl,rfl,hR⟩:=hK2
           have hg2:=hglb ρ2 hr2.gl
           obtain⟨g3,fn3,D3,c3,t1,t2,t3⟩:=hr2.mr.blk k.r _ (p9 hn2) (by rw[hadr ρ2 hg2.1]; simp)
           rw[hadr ρ2 hg2.1] at t1
           simp only[z0a,z0g,z2a,and_true] at t1
           obtain⟨rfl,rfl⟩:=t1
           have hlt3:=(z0j.1 t3).1
           have fin:∀(j:Option Code),(j=(c62 e).pe∧(if j.isNone then LoopState.ready else LoopState.done)=(c62 e).st∧Den ρ2 (jcV e) (.bool j.isNone)) →
             ∃ v w',(Instr.endRound g j).run P W2=.ok v w'∧c94 T b B w0 R (.returned v) w':=fun j ⟨j1,j2,j3⟩=>by
            have her:=run_endRound (P:=P) j t3
            refine⟨_,_,her,_,ρ2,_,_,rfl,j3,?_,hR,hg2⟩
            have:({ a3c .busy k.us k.cd fn3 D3 with state:=if j.isNone then LoopState.ready else LoopState.done,pending:=j }:Loop)=a3c (c62 e) k.us k.cd fn3 D3:=by
             rw[j2,j1]; rfl
            rw[this]
            exact hr2.mr.lupPut (p9 hn2) (hadr ρ2 hg2.1) ⟨g,fn3,D3,c,hadr ρ2 hg2.1,t2,World.putObj_heap_same hlt3⟩
           cases e with
           | normal=>exact fin none ⟨rfl,rfl,.tt⟩
           | ret=>exact fin (some .ret) ⟨rfl,rfl,.ff⟩
           | exit id=>exact fin (some (.exit id)) ⟨rfl,rfl,.ff⟩
          ·exact hK2.elim
        ·exact hK1.elim
      ·exact h.elim
     ·exact h.elim
    ·exact h.elim
  cases c with
  | skip=>exact wpIn_skip (hQ .normal s ρ a W h hr)
  | label l=>exact wpIn_label (hQ .normal s ρ a W h hr)
  | ret=>exact wpIn_ret (hQ .ret s ρ a W h hr)
  | exit id=>exact wpIn_exit (hQ (.exit id) s ρ a W h hr)
  | region id ops draw =>
   simp only[vc] at h
   cases hrm:T.rmode
   ·
    rw[hrm,z0m] at h
    obtain rfl:=hm hrm
    split at h
    ·rename_i tps s0 htr
     obtain⟨htp,h⟩:=a0m.1 h
     obtain⟨ρ,hr⟩:=b18 htr htp hr
     split at h
     ·rename_i left d r rest hn
      cases draw with
      | true=>exact h.elim
      | false =>
       simp only[z0m] at h
       exact wpIn_wide.2 (b8p hT hn hr h.1 h.2 fun s' ρ' a' W' h2 hr'=>hQ .normal s' ρ' a' W' h2 hr')
     ·split at h
      ·rename_i n d rest hn
       cases draw with
       | true=>exact h.elim
       | false =>
        simp only[z0m] at h
        exact wpIn_wide.2 (c0u hT hn hr h.1 h.2 fun s' ρ' a' W' h2 hr'=>hQ .normal s' ρ' a' W' h2 hr')
      cases draw with
      | true =>
       simp only[z0f] at h
       split at h
       ·rename_i ps s' hg
        obtain⟨h1,h2⟩:=a0m.1 h
        unfold a4n at hg
        split at hg
        ·rename_i x hgo
         simp only[z0a] at hg
         subst hg
         exact wpIn_wide.2 (b96 hT hgo h1 hr fun ρ' a' W' hr'=>hQ .normal s' ρ' a' W' h2 hr')
        ·exact wpIn_wide.2 (b97 hT hg h1 hr fun ρ' a' W' hr'=>hQ .normal s' ρ' a' W' h2 hr')
       ·unfold regK at h
        simp only[z0f] at h
        split at h
        ·exact b98 (K:=fun st=>K .normal st) hT hI h hr fun st ρ' a' W' h2 hr'=>hQ .normal st ρ' a' W' h2 hr'
        split at h
        ·rename_i x y z hsp
         obtain⟨hx,hy,hz⟩:=h
         exact wpIn_wide.2 (b79 (K:=fun st=>K .normal st) hT hsp hr (fun st ρ' a' W' h2 hr'=>hQ .normal st.2 ρ' a' W' h2 hr') hx hy hz)
        ·exact a9j hT hI (fun hh=>absurd rfl hh) h hr fun s' ρ' a' W' h2 hr'=>hQ .normal s' ρ' a' W' h2 hr'
      | false =>
       simp only[z0m] at h
       split at h
       ·rename_i ps s' hg0
        have hg:a9n T ops.toList ops.toList s0=some (ps,s'):=by
         cases hb:y4 1000002 T.sure <;> rw[hb] at hg0
         ·exact hg0
         ·cases hg0
        obtain⟨h1,h2⟩:=a0m.1 h
        exact wpIn_wide.2 (c1a hT hg h1 hr fun ρ' a' W' hr'=>hQ .normal s' ρ' a' W' h2 hr')
       ·exact b15 hT hI (fun hh=>absurd rfl hh) h hr fun s' ρ' a' W' h2 hr'=>hQ .normal s' ρ' a' W' h2 hr'
    ·exact h.elim
   ·rw[hrm,z0f] at h
    split at h
    ·rename_i tps s0 htr
     obtain⟨htp,h⟩:=a0m.1 h
     obtain⟨ρ,hr⟩:=b18 htr htp hr
     cases hnd:a5g ops.toList
     ·rw[hnd] at h; exact h.elim
     rw[hnd,z0f] at h
     cases draw with
     | true=>exact a9j hT .none (fun _=>hnd) h hr fun s' ρ' a' W' h2 hr'=>hQ .normal s' ρ' a' W' h2 hr'
     | false=>exact b15 hT .none (fun _=>hnd) h hr fun s' ρ' a' W' h2 hr'=>hQ .normal s' ρ' a' W' h2 hr'
    ·exact h.elim
  | seq x y =>
   simp only[vc] at h
   refine wpIn_seq (ih hT hm bid x s _ ρ a W _ N h hr fun e s' ρ' a' W' hK hr'=>?_)
   cases e with
   | normal=>exact ih hT hm bid y s' K ρ' a' W' Q N hK hr' hQ
   | ret=>exact hQ .ret s' ρ' a' W' hK hr'
   | exit id=>exact hQ (.exit id) s' ρ' a' W' hK hr'
  | cond x y z =>
   simp only[vc] at h
   have hcl:∀ {v:SV},q7 T s.slots [] x=some v→Den ρ v (a.eval x):=fun hu=>f7 hr.gl hu (fun t st _ hn hsat=>by rw[t0] at hn; exact(hr.fr.ok t st hn).1 hsat) (fun q w hq=>by cases hq)
   have hre:∀(v:SV),Den ρ v (a.eval x)→Rel T B w0 ρ (refine s.slots x v) s.mem a W:=fun v hv=>by
    cases x <;> simp only[refine] <;> try exact hr
    rename_i t
    refine⟨⟨by rw[d8]; exact hr.fr.len,fun d t' ht'=>?_⟩,hr.mr,hr.gl,hr.df⟩
    rw[j7] at ht'
    split at ht'
    ·rename_i hd
     simp only[z0a] at ht'
     subst ht'
     obtain⟨rfl,_⟩:=hd
     exact⟨fun _=>hv,fun hn=>absurd (fun q w hq=>by cases hq) hn⟩
    ·exact hr.fr.ok d t' ht'
   split at h
   ·rename_i hu
    exact wpIn_cond_true (hcl hu).tt_inv (ih hT hm bid y s K ρ a W Q N h hr hQ)
   ·rename_i hu
    exact wpIn_cond_false (hcl hu).ff_inv (ih hT hm bid z s K ρ a W Q N h hr hQ)
   ·rename_i t hu
    have hv:=(hcl hu).b_inv
    refine wpIn_cond_split hv (fun ht=>?_) (fun ht=>?_)
    ·subst ht
     exact ih hT hm bid y _ K ρ a W Q N (h.1 rfl) (hre .tt (by rw[hv]; exact .tt)) hQ
    ·subst ht
     exact ih hT hm bid z _ K ρ a W Q N (h.2 rfl) (hre .ff (by rw[hv]; exact .ff)) hQ
   ·exact h.elim
  | block id body =>
   simp only[vc] at h
   refine wpIn_block (ih hT hm id body s _ ρ a W _ N h hr fun e s' ρ' a' W' hK hr'=>?_)
   cases e with
   | normal=>exact hQ .normal s' ρ' a' W' hK hr'
   | ret=>exact hQ .ret s' ρ' a' W' hK hr'
   | exit id' =>
    simp only[Ex.toExit,Exit.inBlock]
    simp only at hK
    by_cases e:id'=id
    ·subst e
     rw[if_pos rfl]
     rw[z2g,z0f] at hK
     exact hQ .normal s' ρ' a' W' hK hr'
    ·rw[if_neg e]
     have:Nat.beq id' id=false:=z0z.2 fun hb=>e (z0b hb)
     rw[this,z0m] at hK
     exact hQ (.exit id') s' ρ' a' W' hK hr'
  | scope body =>
   simp only[vc] at h
   cases hrm:T.rmode
   ·rw[hrm,z0m] at h
    obtain rfl:=hm hrm
    refine wpIn_wide.2 (wp_scope_straight (wpIn_wide.1 (ih (ro:=none) hT hm bid body s _ ρ a W _ N h hr fun e s' ρ' a' W' hK hr'=>?_)))
    cases e with
    | normal=>exact hQ .normal s' ρ' a' W' hK hr'
    | ret=>exact hQ .ret s' ρ' a' W' hK hr'
    | exit id=>exact hQ (.exit id) s' ρ' a' W' hK hr'
   ·rw[hrm] at h; exact h.elim
  | loop body =>
   simp only[vc] at h
   split at h
   ·rename_i PL hL
    obtain⟨y,⟨x,hx,he1,he2⟩,hbody⟩:=h
    generalize PL.ann y=L at *
    obtain⟨ρ1,hr1⟩:=c2m (ps:=L.ren) hr
    generalize a3y (a0z T) L.ren s=s1 at *
    have hG:∀ x:L.X,(∀ g r,g7 T.globals g=some r→r < (head L (a0e body) s1 x).mem.length)∧(∀ p,p∈T.pins→p.1 < (head L (a0e body) s1 x).mem.length):=fun x=>by
     simp only[head,v7]
     refine⟨fun g r hg=>?_,fun p hp=>hr1.mr.dom _ (by rw[hr1.gl.pin p hp]; simp)⟩
     obtain⟨c,hc⟩:=hr1.gl.gl g r hg
     exact hr1.mr.dom r (by rw[hc]; simp)
    have rounds:∀(k:Nat) (x:L.X) (ρ:Env) (a:Act) (W:World),L.mu x < k→L.inv x→Rel T B w0 ρ (head L (a0e body) s1 x).slots (head L (a0e body) s1 x).mem a W→Code.roundsIn (FW ro) N P body Q k a W:=by
     intro k
     induction k with
     | zero=>intro x _ _ _ hlt; omega
     | succ k ihk =>
      intro x ρ a W hlt hix hrx
      have hb:=hbody x hix
      cases hok:b2z (head L (a0e body) s1 x)
      ·simp[hok] at hb
      ·simp only[hok,z0f] at hb
       rw[roundsIn_succ]
       refine ih hT hm bid body _ _ ρ a W _ N hb hrx fun e s' ρ' a' W' hK hr'=>?_
       cases e with
       | normal =>
        simp only[Ex.toExit,Exit.then]
        simp only at hK
        obtain⟨x',hix',hmu,hs1,hs2⟩:=hK
        have hb':=hbody x' hix'
        cases hok':b2z (head L (a0e body) s1 x')
        ·simp[hok'] at hb'
        ·obtain⟨ρ2,hr2⟩:=c2m (ps:=L.ren) hr'
         obtain⟨σ,hσ⟩:=c7b (hG x') c9h hr2 hs1 hs2 hok'
         exact ihk x' σ a' W' (by omega) hix' hσ
       | ret=>exact hQ .ret s' ρ' a' W' hK hr'
       | exit id=>exact hQ (.exit id) s' ρ' a' W' hK hr'
    exact wpIn_loop_rounds _ (rounds (L.mu x + 1) x ρ1 a W (by omega) hx (c4p hr1 he1 he2))
   ·exact h.elim
  | rangeFunc g ps assign body =>
   simp only[vc] at h
   split at h
   ·rename_i f ys hrm hbk hu
    obtain rfl:=hm hrm
    split at h
    ·rename_i J hJ
     split at h
     ·rename_i c hc
      have hdf:=f7 hr.gl hu (fun t st _ hn hsat=>by rw[t0] at hn; exact(hr.fr.ok t st hn).1 hsat) (fun q w hq=>by cases hq)
      obtain⟨ws,hws,hdw⟩:∃ ws:List Value,a.eval g=.func (.func f) #[] ws.toArray∧DenL ρ ys ws:=by
       generalize a.eval g=v at hdf
       cases hdf with
       | fn h1 h2=>exact⟨_,rfl,h1,h2⟩
      obtain⟨hfn,fn',hfn',hname,hbody'⟩:=hT.inl f J hJ
      refine wpIn_rangeFunc fun fn _=>?_
      obtain⟨ρ1,hm1,hle,eb,el,hS1,hSD⟩:=MR.enter hr fn ps assign body
      generalize hW1:(W.alloc (.deferred (some []))).alloc (.loop { state:=.ready,pending:=none,fn,tmps:=a.tmps,params:=ps,assign,body,defers:=W.heap.size })=W1 at hm1
      have hlt1:W.heap.size < W1.heap.size:=by rw[← hW1]; simp; omega
      have hD1:W1.heap[W.heap.size]?=some (.deferred (some [])):=by rw[← hW1]; exact(Below.heap_alloc _ _ _ (by simp)).trans (World.alloc_heap_new W _)
      have hT':TabOk P (T.intoR J s.mem.length (some ⟨W.heap.size + 1,0,none⟩,0) a.tmps.toList ⟨ps,assign,body⟩ ps assign body):=⟨hT.mixed,hT.types,hT.ints,hT.calls,hT.callsB,hT.inl,fun k hk=>by
       cases hk
       exact⟨rfl,z1h,_,z0w _ z1h⟩⟩
      have hgl1:GlobOk (T.intoR J s.mem.length (some ⟨W.heap.size + 1,0,none⟩,0) a.tmps.toList ⟨ps,assign,body⟩ ps assign body) ρ1:=⟨fun g r hg=>by obtain⟨c,hc⟩:=hr.gl.gl g r hg; exact⟨c,hle _ _ hc⟩,fun p hp=>by
       rcases z0s.1 hp with rfl | hp
       ·exact eb
       ·rcases z0s.1 hp with rfl | hp
        ·exact el
        ·exact hle _ _ (hr.gl.pin p hp)⟩
      have hdy:DenL ρ1 (.yld (s.mem.length + 1) :: ys) (.func (.yield (W.heap.size + 1)) #[] #[] :: ws):=DenL.cons (.yld el) (hdw.mono hle)
      have hcall:=a89 (B:=⟨ρ1.S,ρ1.R⟩) (w0:=W1) hT' hfn hc (fun a' Q' hr' hQ'=>ih (ro:=none) hT' (fun _=>rfl) _ _ _ _ ρ1 a' W1 Q' _ (h a.tmps.toList ⟨ps,assign,body⟩ (some ⟨W.heap.size + 1,0,none⟩,0)) hr' hQ') hm1.strong hgl1 hdy
      have h1:fn'.name≠ "runtime.NumGoroutine":=by simpa using hname
      have h2:fn'.body≠none:=by intro e; simp[e] at hbody'
      refine⟨W.heap.size + 1,[c40 W.heap.size],W1,{ target:=.fn (.func f) ws.toArray,args:=#[.func (.yield (W.heap.size + 1)) #[] #[]] },W1,f,(.func (.yield (W.heap.size + 1)) #[] #[] :: ws).toArray,W1,?_,?_,fun _ _=>trivial,?_,fun hh=>(by cases hh),b2g (Calls.mono hcall ?_)⟩
      ·rw[← hW1]; exact run_enterLoop_outer _ _ _ _ _
      ·simp only[resolve,hws]
       simp[go_sem]
      ·simp[invoke,callFunc,hfn',h1,h2]
      ·rintro e W3 ⟨v,ρ3,m3,sv,rfl,hdv,hm3,hR,hg3⟩
       have e3b:ρ3 s.mem.length=some (none,0):=hg3.pin (s.mem.length,(none,0)) z1h
       have e3l:ρ3 (s.mem.length + 1)=some (some ⟨W.heap.size + 1,0,none⟩,0):=hg3.pin (s.mem.length + 1,_) (z0w _ z1h)
       split at hR
       ·rename_i cs us' st us2 cd2 hn1 hn2
        obtain⟨rfl,rfl,rfl,hK⟩:=hR
        split at hK
        ·rename_i ex hjc
         have hst:DenL ρ3 cs a.tmps.toList:=hm3.blk s.mem.length _ (p9 hn1) (by rw[e3b]; simp)
         obtain⟨g3,fn3,D3,c3,q1,q2,q3⟩:=hm3.blk (s.mem.length + 1) _ (p9 hn2) (by rw[e3l]; simp)
         rw[e3l] at q1
         simp only[z0a,z0g,z2a,and_true] at q1
         obtain⟨rfl,rfl⟩:=q1
         have hnb:(a3c st a.tmps.toList ⟨ps,assign,body⟩ fn3 D3).state≠.busy:=by
          cases st <;> simp[a3c,LSt.st,jcK] at hjc ⊢
         have hend:=run_endLoop (P:=P) q3 hnb
         have hmb:=hm1.back hm3
         have hmE:MR B w0 (W3.putObj (W.heap.size + 1) (.loop { a3c st a.tmps.toList ⟨ps,assign,body⟩ fn3 D3 with state:=.exhausted })) ρ3 (i4 (i4 m3 s.mem.length .gone) (s.mem.length + 1) .gone):=
          (hmb.drop (r:=s.mem.length)).lupPut (r:=s.mem.length + 1) (by rw[j7,if_neg (by omega)]; exact p9 hn2) e3l trivial
         have hrel:Rel T B w0 ρ3 (a11 cs) (i4 (i4 m3 s.mem.length .gone) (s.mem.length + 1) .gone) { a with defers:=[c40 W.heap.size] ++ a.defers } (W3.putObj (W.heap.size + 1) (.loop { a3c st a.tmps.toList ⟨ps,assign,body⟩ fn3 D3 with state:=.exhausted })):=by
          refine⟨FR.of_svs (a:={ a with defers:=[c40 W.heap.size] ++ a.defers }) hst,hmE,⟨hg3.gl,fun p hp=>hg3.pin p (z0w _ (z0w _ hp))⟩,?_⟩
          obtain⟨Ds,d1,d2,d3⟩:=hr.df
          have hput:∀ D,ρ1.S D→W1.heap[D]?=some (.deferred (some []))→(W3.putObj (W.heap.size + 1) (.loop { a3c st a.tmps.toList ⟨ps,assign,body⟩ fn3 D3 with state:=.exhausted })).heap[D]?=some (.deferred (some [])):=fun D hs hd=>by
           have h3:W3.heap[D]?=some (.deferred (some [])):=(hm3.below.block D hs).trans hd
           rw[World.putObj_heap_other (fun e=>by rw[e,q3] at h3; cases h3)]
           exact h3
          refine⟨W.heap.size :: Ds,by simp[d1],z3q.2 ⟨fun hmem=>?_,d2⟩,fun D hD=>?_⟩
          ·have:=(z0j.1 (d3 _ hmem).2.2).1
           omega
          ·rcases z0s.1 hD with rfl | hD
           ·exact⟨hm3.sub _ hSD,fun hk=>by have:=hr.mr.hS _ (hr.mr.sub _ hk); omega,hput _ hSD hD1⟩
           ·obtain⟨z1,z2,z3⟩:=d3 D hD
            have hlt:=(z0j.1 z3).1
            refine⟨hm3.sub _ (hS1 _ z1),z2,hput _ (hS1 _ z1) ?_⟩
            rw[← hW1]
            exact((Below.heap_alloc _ _ _ (by simp; omega)).trans (Below.heap_alloc _ _ _ hlt)).trans z3
         have hq:=hQ ex _ ρ3 _ _ hK hrel
         refine⟨_,_,hend,?_⟩
         cases st with
         | ready=>cases hjc; exact hq
         | busy=>cases hjc
         | done j =>
          cases j with
          | ret=>cases hjc; exact wpIn_ret hq
          | exit id=>cases hjc; exact wpIn_exit hq
        ·exact hK.elim
       ·exact hR.elim
     ·exact h.elim
    ·exact h.elim
   ·exact h.elim
  | _=>exact h.elim
theorem a94 {T:Tab} {B:Lim} {w0:World} {f:FuncId} {fn:Func} {vs:List SV} {xs:List Value} {m:List MBlk} {ρ:Env} {W:World} {R:SV→List MBlk→Prop} (hT:TabOk P T) (hf:P.funcs[f]?=some fn) (hv:n9 T fn vs m R) (hm:MR B w0 W ρ m) (hG:GlobOk T ρ) (hd:DenL ρ vs xs) :
  Calls P f xs.toArray W (fun e W'=>∃ v ρ' m' sv,e=.returned v∧Den ρ' sv v∧MR B w0 W' ρ' m'∧R sv m'∧GlobOk T ρ'):=by
 unfold n9 at hv
 split at hv
 ·rename_i c hrm hc
  exact a89 hT hf hc (fun a Q hr hQ=>c8t _ hT (fun _=>rfl) _ _ _ _ ρ a W Q _ hv hr hQ) hm hG hd
 ·exact hv.elim
end
end Go.Proofs.YtaeeaniofljmnaaGreatDoor.Sx

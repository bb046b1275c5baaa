/-
  A part of the proof (J56a).
-/
import Derived.Test.YtaeeaniofljmnaaGreatDoorJ2
import Derived.Test.YtaeeaniofljmnaaGreatDoorJ14
import Derived.Test.YtaeeaniofljmnaaGreatDoorJ51a
import Derived.Test.YtaeeaniofljmnaaGreatDoorVx16
import Derived.Test.YtaeeaniofljmnaaGreatDoorVx14
import Derived.Test.YtaeeaniofljmnaaGreatDoorCards
import Derived.Test.YtaeeaniofljmnaaGreatDoorTie
import Derived.WalkKit
import Derived.ProofKit
import Derived.OpenShut
import Derived.Deep.DeepHandedRow
import Derived.SizedLaws
import Derived.Lib.LaidTab
namespace Go.Proofs.YtaeeaniofljmnaaGreatDoor
set_option linter.unusedSimpArgs false
set_option linter.unusedVariables false
open Go Go.Proofs.YtaeeaniofljmnaaGreatDoor.Sx Go.ChangeShapes Go.WideShapes Go.ChangeAt Go.RowKit
set_option maxRecDepth 100000
theorem c7h:laidOutB Tryz.prog=true:=by kernel_rfl
theorem d1e:ownKnob Tryz.prog.godebug=none:=by kernel_rfl
def a72 (w:World) (a:Addr):Int:=match w.cell? a with
 | some (.int _ n)=>n
 | _=>0
theorem b8s {w:World} {a:Addr} {u:Value} {k:IntKind} (h:w.cell? a=some u) (hk:b8t (some k) u):w.cell? a=some (.int k (a72 w a)):=by
 obtain⟨n,rfl,_⟩:=hk
 simp only[a72,h]
def a64 (W:World) (E:Nat→Option (Option Addr × Nat)):Env:=⟨E,fun g=>g < W.heap.size,fun g=>g < W.heap.size,fun _ _=>False⟩
section
variable {H:Type} {enc:TypeId × Value→H} {P:Program} {w:World} {base:Nat} {sp:Nat→Bool} {held:Bool}
theorem b4g {f fuel:Nat} {t e:TypeId} {v:Value} {x:DataW H × List MemPlace} {ks:List (Option IntKind)} (ht:P.underlying t=some (.slice e)) (hk:a3l P f e=some ks) (hl:ks.length=P.cellsOf e) (h0:0 < ks.length) (hf:DataW.trod enc P w base sp held fuel t [v]=some x) :
  ∃ A n c,(n=0∨∃ es sp,x.1=.slice es sp∧es.length=n)∧v=.slice A n c∧n≤c∧(0 < n→∃ a,A=some a∧a.block < w.heap.size∧∀ j,j < n→∀(k:Nat) (kd:Option IntKind),ks[k]?=some kd→∃ u,w.cell? (a.add (j * ks.length + k))=some u∧b8t kd u):=by
 rcases DataW.trod_slice ht hf with⟨hz,_⟩ | ⟨a,len,cap,elems,rest,m,_,hz,rfl,_,hle,hmx,hel,hat,_⟩
 ·simp only[z2u,and_true] at hz
  exact⟨none,0,0,.inl rfl,hz,z0q _,fun h=>absurd h (z1o _)⟩
 ·simp only[z2u,and_true] at hz
  refine⟨some a,len,cap,.inr ⟨_,_,rfl,by rw[z2s]; exact hel⟩,hz,hle,fun hn=>?_⟩
  have hcell:∀ j,j < len→∀(k:Nat) (kd:Option IntKind),ks[k]?=some kd→∃ u,w.cell? (a.add (j * ks.length + k))=some u∧b8t kd u:=fun j hj k kd hkk=>by
   have h1:=hat j hj
   rw[z0j (by omega)] at h1
   rw[z2v] at h1
   obtain⟨cs,hcs1,hcs2⟩:=h1
   obtain⟨h2,_⟩:=b99 f m e cs _ _ ks hk (show DataW.trod enc P w base sp held m e cs=some (elems[j].1,elems[j].2) from hcs2)
   obtain⟨u,hu,hku⟩:=c1d h2 k kd hkk
   have hkl:=(z0c.1 hkk).1
   have:=b39 hcs1 k (by omega)
   rw[x9,hu,← hl] at this
   exact⟨u,this,hku⟩
  refine⟨a,rfl,?_,hcell⟩
  obtain⟨u,hu,_⟩:=hcell 0 hn 0 _ (z0j h0)
  have:=World.block_lt_of_cell? w _ hu
  rw[Sx.block_add] at this
  exact this
theorem d59 {a:Addr} {cs:List Value} (h:w.cells? base a 1=some cs):∃ u,cs=[u]∧w.cell? a=some u:=by
 have h1:=b39 h 0 (by omega)
 have h2:cs.length=1:=by
  unfold World.cells? at h
  split at h
  ·have:=(b6d h).1
   simpa using this
  ·cases h
 match cs,h2 with
 | [u],_ =>
  refine⟨u,rfl,?_⟩
  have e:a.add 0=a:=by cases a; simp[Addr.add]
  rw[e] at h1
  exact h1
theorem c5k {fuel:Nat} {t e:TypeId} {v:Value} {x:DataW H × List MemPlace} (ht:P.underlying t=some (.slice e)) (hc:P.cellsOf e=1) (hf:DataW.trod enc P w base sp held fuel t [v]=some x) :
  ∃ A n c,v=.slice A n c∧n≤c∧(n=0∨∃ es sp' a,x.1=.slice es sp'∧es.length=n∧A=some a∧∀ j,j < n→∃ u y m,w.cell? (a.add j)=some u∧DataW.trod enc P w base sp held m e [u]=some y∧es[j]?=some y.1):=by
 rcases DataW.trod_slice ht hf with⟨hz,_⟩ | ⟨a,len,cap,elems,rest,m,_,hz,rfl,_,hle,hmx,hel,hat,_⟩
 ·simp only[z2u,and_true] at hz
  exact⟨none,0,0,hz,z0q _,.inl rfl⟩
 ·simp only[z2u,and_true] at hz
  refine⟨some a,len,cap,hz,hle,.inr ⟨_,_,a,rfl,by rw[z2s]; exact hel,rfl,fun j hj=>?_⟩⟩
  have h1:=hat j hj
  rw[z0j (by omega),hc] at h1
  rw[z2v] at h1
  obtain⟨cs,hcs1,hcs2⟩:=h1
  obtain⟨u,rfl,hu⟩:=d59 hcs1
  rw[Nat.mul_one] at hu
  exact⟨u,elems[j],m,hu,hcs2,by rw[z3m,z0j (by omega)]; rfl⟩
end
def b0c (w:World):Value→List Int
 | .slice (some b) l _=>mkN (fun i=>a72 w (b.add (i * 1 + 0))) l
 | .slice none l _=>mkN (fun _=>0) l
 | _=>[]
theorem a45 {w:World} {A:Option Addr} {l c:Nat}:(b0c w (.slice A l c)).length=l:=by
 cases A <;> simp[b0c,g8]
section
variable {H:Type} {enc:TypeId × Value→H} {w:World} {base:Nat} {sp:Nat→Bool} {held:Bool}
theorem k85:a3l Tryz.prog 5 85=some [some .i64,some .i64,some .i64,some .i64,some .i64,some .i64,some .i64,some .i64,some .i64]:=by kernel_rfl
def evAt (w:World) (a:Addr) (j:Nat):Ev:=⟨a72 w (a.add (j * 9 + 0)),a72 w (a.add (j * 9 + 1)),a72 w (a.add (j * 9 + 2)),a72 w (a.add (j * 9 + 3)),a72 w (a.add (j * 9 + 4)),a72 w (a.add (j * 9 + 5)),a72 w (a.add (j * 9 + 6)),a72 w (a.add (j * 9 + 7)),a72 w (a.add (j * 9 + 8))⟩
theorem c80 {fuel:Nat} {v:Value} {x:DataW H × List MemPlace} (hf:DataW.trod enc Tryz.prog w base sp held fuel 22 [v]=some x) (hw:∀ n∈x.1.weights Tryz.prog 22,n≤reachBytes) :
  ∃(l:List Ev) (y:Option Addr × Nat),l.length≤17592186044416∧∀(E:Nat→Option (Option Addr × Nat)) (i:Nat),E i=some y→BR (a64 w E) w i (.arr l.length (i6 l))∧Den (a64 w E) (.sl i l.length) v:=by
 obtain⟨A,n,c,hwt,rfl,hnc,hc⟩:=b4g (f:=5) (t:=22) (e:=85) (by kernel_rfl) k85 (by kernel_rfl) (by simp) hf
 have hn:n≤17592186044416:=by
  rcases hwt with h | ⟨es,sp,h1,h2⟩
  ·omega
  ·have hs:Tryz.prog.underlying 22=some (.slice 85):=by kernel_rfl
   have hb:Tryz.prog.bytesOf 85=72:=by kernel_rfl
   have:=hw ((es.length + sp.length) * Tryz.prog.bytesOf 85) (by rw[h1]; simp[DataW.weights,hs])
   rw[hb] at this
   have hr:=reachBytes_lt
   omega
 cases A with
 | none =>
  have h0:n=0:=by
   cases n with
   | zero=>rfl
   | succ n=>obtain⟨a,ha,_⟩:=hc (Nat.succ_pos n); cases ha
  subst h0
  exact⟨[],(none,c),by simp,fun E i hE=>⟨⟨none,c,hE,hnc,fun h=>absurd h (z1o _)⟩,.sl hE (fun h=>absurd h (z1o _))⟩⟩
 | some a =>
  refine⟨mkN (evAt w a) n,(some a,c),by rw[g8]; exact hn,fun E i hE=>⟨⟨some a,c,hE,by rw[g8]; exact hnc,fun hn=>?_⟩,by rw[g8]; exact .sl hE (fun _=>by simp)⟩⟩
  rw[g8] at hn
  obtain⟨a',ha,hlt,hcell⟩:=hc hn
  simp only[z0a] at ha
  subst ha
  refine⟨a,rfl,hlt,fun j hj k col hcol=>?_⟩
  rw[g8] at hj
  have hkk:=(z0c.1 hcol).1
  have h9:k < 9:=hkk
  have hk9:([some .i64,some .i64,some .i64,some .i64,some .i64,some .i64,some .i64,some .i64,some .i64]:List (Option IntKind))[k]?=some (some .i64):=by
   match k,h9 with
   | 0,_ | 1,_ | 2,_ | 3,_ | 4,_ | 5,_ | 6,_ | 7,_ | 8,_=>rfl
  obtain⟨u,hu,hk⟩:=hcell j hj k (some .i64) hk9
  refine⟨_,b8s hu hk,?_⟩
  match k,h9,hcol with
  | 0,_,hcol | 1,_,hcol | 2,_,hcol | 3,_,hcol | 4,_,hcol | 5,_,hcol | 6,_,hcol | 7,_,hcol | 8,_,hcol =>
   simp only[i6,z2j,z1p,z0a] at hcol
   subst hcol
   simp only[j9,v7 _ _ hj]
   rfl
theorem b9v {fuel:Nat} {v:Value} {x:DataW H × List MemPlace} (hf:DataW.trod enc Tryz.prog w base sp held fuel 23 [v]=some x) (hw:∀ n∈x.1.weights Tryz.prog 23,n≤reachBytes) :
  ∃ A n c,v=.slice A n c∧n≤c∧n≤17592186044416∧(0 < n→∃ a,A=some a∧a.block < w.heap.size∧∀ i,i < n→w.cell? (a.add (i * 1 + 0))=some (.int .i64 (b6 0 (b0c w v) i))):=by
 obtain⟨A,n,c,hwt,rfl,hnc,hc⟩:=b4g (f:=5) (ks:=[some .i64]) (t:=23) (e:=3) (by kernel_rfl) (by kernel_rfl) (by kernel_rfl) (by simp) hf
 refine⟨A,n,c,rfl,hnc,?_,fun h=>?_⟩
 ·rcases hwt with h | ⟨es,sp,h1,h2⟩
  ·omega
  ·have hs:Tryz.prog.underlying 23=some (.slice 3):=by kernel_rfl
   have hb:Tryz.prog.bytesOf 3=8:=by kernel_rfl
   have:=hw ((es.length + sp.length) * Tryz.prog.bytesOf 3) (by rw[h1]; simp[DataW.weights,hs])
   rw[hb] at this
   have hr:=reachBytes_lt
   omega
 ·obtain⟨a,rfl,hlt,hcell⟩:=hc h
  refine⟨a,rfl,hlt,fun i hi=>?_⟩
  obtain⟨u,hu,hk⟩:=hcell i hi 0 (some .i64) rfl
  have hu':w.cell? (a.add (i * 1 + 0))=some u:=hu
  rw[b8s hu' hk,b0c,v7 _ _ hi]
theorem d1b {fuel:Nat} {v:Value} {x:DataW H × List MemPlace} (hf:DataW.trod enc Tryz.prog w base sp held fuel 23 [v]=some x) (hw:∀ n∈x.1.weights Tryz.prog 23,n≤reachBytes) :
  ∃(l:List Int) (y:Option Addr × Nat),l.length≤17592186044416∧∀(E:Nat→Option (Option Addr × Nat)) (i:Nat),E i=some y→BR (a64 w E) w i (.arr l.length (f7 l))∧Den (a64 w E) (.sl i l.length) v:=by
 obtain⟨A,n,c,rfl,hnc,hn,hc⟩:=b9v hf hw
 refine⟨b0c w (.slice A n c),(A,c),by rw[a45]; exact hn,fun E i hE=>⟨⟨A,c,hE,by rw[a45]; exact hnc,fun h0=>?_⟩,by
  rw[a45]
  exact .sl hE (fun h0=>by obtain⟨a,rfl,_⟩:=hc h0; simp)⟩⟩
 rw[a45] at h0
 obtain⟨a,rfl,hlt,hcell⟩:=hc h0
 refine⟨a,rfl,hlt,fun j hj k col hcol=>?_⟩
 rw[a45] at hj
 match k,hcol with
 | 0,hcol =>
  simp[f7] at hcol
  subst hcol
  exact⟨_,hcell j hj,rfl⟩
 | k + 1,hcol=>simp[f7] at hcol
theorem b5f {P:Program} {e:TypeId} {d:DataW H} {k:Nat}:∀ {ds:List (DataW H)} {j:Nat},ds[j]?=some d→k∈d.weights P e→k∈DataW.weightsAll P e ds:=by
 intro ds
 induction ds with
 | nil=>intro j h _; simp at h
 | cons a r ih =>
  intro j h hk
  simp only[DataW.weightsAll,z0o]
  cases j with
  | zero=>simp at h; subst h; exact .inl hk
  | succ j=>exact .inr (ih (by simpa using h) hk)
theorem d1c {fuel:Nat} {v:Value} {x:DataW H × List MemPlace} (hf:DataW.trod enc Tryz.prog w base sp held fuel 24 [v]=some x) (hw:∀ n∈x.1.weights Tryz.prog 24,n≤reachBytes) :
  ∃(M:List (List Int)) (y:Option Addr × Nat),(M.length≤17592186044416∧∀ r∈M,r.length≤17592186044416)∧∀(E:Nat→Option (Option Addr × Nat)) (i:Nat),E i=some y→BR (a64 w E) w i (.arr M.length (i4 M))∧Den (a64 w E) (.sl i M.length) v:=by
 obtain⟨A,n,c,rfl,hnc,hc⟩:=c5k (t:=24) (e:=23) (by kernel_rfl) (by kernel_rfl) hf
 rcases hc with rfl | ⟨es,sp',a,hx,hel,rfl,hc⟩
 ·exact⟨[],(A,c),⟨by simp,fun r h=>by cases h⟩,fun E i hE=>⟨⟨A,c,hE,hnc,fun h=>absurd h (z1o _)⟩,.sl hE (fun h=>absurd h (z1o _))⟩⟩
 ·have hs:Tryz.prog.underlying 24=some (.slice 23):=by kernel_rfl
  have hb:Tryz.prog.bytesOf 23=24:=by kernel_rfl
  have hn:n≤17592186044416:=by
   have:=hw ((es.length + sp'.length) * Tryz.prog.bytesOf 23) (by rw[hx]; simp[DataW.weights,hs])
   rw[hb] at this
   have hr:=reachBytes_lt
   omega
  have hrow:∀ j,j < n→∃ A l c,w.cell? (a.add j)=some (.slice A l c)∧l≤c∧l≤17592186044416∧(0 < l→∃ b,A=some b∧b.block < w.heap.size∧∀ i,i < l→w.cell? (b.add (i * 1 + 0))=some (.int .i64 (b6 0 (b0c w (.slice A l c)) i))):=fun j hj=>by
   obtain⟨u,y,m,hu,hy,hes⟩:=hc j hj
   obtain⟨A,l,c,rfl,h1,h2,h3⟩:=b9v hy fun k hk=>hw k (by
    rw[hx]
    simp only[DataW.weights,hs,z0t,z0o]
    exact .inr (.inl (b5f hes hk)))
   exact⟨A,l,c,hu,h1,h2,h3⟩
  let g:Nat→List Int:=fun j=>match w.cell? (a.add j) with
   | some u=>b0c w u
   | none=>[]
  have hg:∀ {j u},w.cell? (a.add j)=some u→g j=b0c w u:=fun h=>by simp only[g,h]
  refine⟨mkN g n,(some a,c),⟨by rw[g8]; exact hn,fun r hr=>?_⟩,fun E i hE=>⟨⟨some a,c,hE,by rw[g8]; exact hnc,fun h0=>?_⟩,by rw[g8]; exact .sl hE (fun _=>by simp)⟩⟩
  ·obtain⟨j,hj,rfl⟩:=z3u.1 hr
   rw[g8] at hj
   obtain⟨A,l,c,hu,_,h2,_⟩:=hrow j hj
   rw[← o6 [] _ _ (by rw[g8]; exact hj),v7 _ _ hj,hg hu,a45]
   exact h2
  ·rw[g8] at h0
   obtain⟨A0,l0,c0,hu0,_⟩:=hrow 0 h0
   have hlt:=World.block_lt_of_cell? w _ hu0
   rw[Sx.block_add] at hlt
   refine⟨a,rfl,hlt,fun j hj k col hcol=>?_⟩
   rw[g8] at hj
   match k,hcol with
   | 0,hcol =>
    simp[i4] at hcol
    subst hcol
    obtain⟨A,l,c,hu,h1,_,h3⟩:=hrow j hj
    have e:b6 [] (mkN g n) j=b0c w (.slice A l c):=by rw[v7 _ _ hj,hg hu]
    have el:(b6 [] (mkN g n) j).length=l:=by rw[e,a45]
    refine⟨.slice A l c,by simpa [i4] using hu,?_⟩
    simp only[j9]
    refine⟨A,c,by rw[el],by rw[el]; exact h1,fun h0=>?_⟩
    rw[el] at h0
    obtain⟨b,rfl,hb,hcell⟩:=h3 h0
    refine⟨b,rfl,⟨hb,hb⟩,fun i hi k f hk=>?_⟩
    rw[el] at hi
    match k,hk with
    | 0,hk =>
     simp at hk
     subst hk
     have:=hcell i hi
     simp only[e]
     simpa using this
    | k + 1,hk=>simp at hk
   | k + 1,hcol=>simp[i4] at hcol
theorem f26:∃ f0 f1 f2,Tryz.prog.underlying 26=some (.struct #[f0,f1,f2])∧(f0.type=22∧f1.type=23∧f2.type=24)∧f0.offset=0∧f1.offset=1∧f2.offset=2:=by
 obtain⟨fs,h⟩:∃ fs,Tryz.prog.underlying 26=some (.struct fs):=by
  have:(match Tryz.prog.underlying 26 with | some (.struct _)=>true | _=>false)=true:=by kernel_rfl
  split at this
  ·exact⟨_,by assumption⟩
  ·cases this
 have hz:(match Tryz.prog.underlying 26 with | some (.struct fs)=>fs.map (fun f=>(f.type,f.offset)) | _=>#[]) = #[(22,0),(23,1),(24,2)]:=by kernel_rfl
 rw[h] at hz
 simp only at hz
 obtain⟨l⟩:=fs
 simp only[List.map_toArray,Array.mk.injEq] at hz
 match l,hz with
 | [f0,f1,f2],hz =>
  simp only[z2f,List.map_nil,z2u,z0g,and_true] at hz
  exact⟨f0,f1,f2,h,⟨hz.1.1,hz.2.1.1,hz.2.2.1⟩,hz.1.2,hz.2.1.2,hz.2.2.2⟩
theorem c28 (k:Nat) {r:Reach} {b0:Nat} {v:Value} {d:DataW H} {p:List MemPlace} (hv:Value.okWide Tryz.prog w r b0 26 v) (h:DataW.Trod enc Tryz.prog w base sp held 26 v d p) (hw:∀ n∈d.weights Tryz.prog 26,n≤reachBytes) :
  ∃(E:List Ev) (R:List Int) (M:List (List Int)) (y0 y1 y2:Option Addr × Nat),SzF E R M∧∀(e:Nat→Option (Option Addr × Nat)),e k=some y0→e (k + 1)=some y1→e (k + 2)=some y2→(BR (a64 w e) w k (.arr E.length (i6 E))∧BR (a64 w e) w (k + 1) (.arr R.length (f7 R))∧BR (a64 w e) w (k + 2) (.arr M.length (i4 M)))∧Den (a64 w e) (.agg [.sl k E.length,.sl (k + 1) R.length,.sl (k + 2) M.length]) v:=by
 obtain⟨f0,f1,f2,ht,⟨e0,e1,e2⟩,o0,o1,o2⟩:=f26
 obtain⟨cs,rfl,hsz⟩:=okWide_struct ht hv
 have h2:Tryz.prog.cellsOf 26=3:=by kernel_rfl
 rw[h2] at hsz
 obtain⟨c0,c1,c2,hcs⟩:∃ c0 c1 c2,cs = #[c0,c1,c2]:=by
  obtain⟨l⟩:=cs
  match l,hsz with
  | [c0,c1,c2],_=>exact⟨c0,c1,c2,rfl⟩
 subst hcs
 obtain⟨fuel,hf⟩:=h
 have hce:(Value.agg #[c0,c1,c2]).cells.toList=[c0,c1,c2]:=by simp[Value.cells]
 rw[hce] at hf
 obtain⟨xs,n,_,hx,_,hxl,hat⟩:=DataW.trod_struct ht hf
 match xs,hxl with
 | [x0,x1,x2],_ =>
  have t0:=hat 0 f0 rfl
  have t1:=hat 1 f1 rfl
  have t2:=hat 2 f2 rfl
  have q22:Tryz.prog.cellsOf 22=1:=by kernel_rfl
  have q23:Tryz.prog.cellsOf 23=1:=by kernel_rfl
  have q24:Tryz.prog.cellsOf 24=1:=by kernel_rfl
  rw[e0,o0,q22] at t0
  rw[e1,o1,q23] at t1
  rw[e2,o2,q24] at t2
  simp only[List.drop_zero,List.drop_succ_cons,List.take_succ_cons,List.take_zero,z2j,z1p] at t0 t1 t2
  have hd:d=.agg [x0.1,x1.1,x2.1]:=congrArg Prod.fst hx
  have hwd:∀ n,n∈x0.1.weights Tryz.prog 22∨n∈x1.1.weights Tryz.prog 23∨n∈x2.1.weights Tryz.prog 24→n≤reachBytes:=fun n hn=>hw n (by
   rw[hd]
   simp only[DataW.weights,ht,DataW.weightsEach,z2f,List.map_nil,e0,e1,e2,z0o,List.not_mem_nil,or_false]
   exact hn)
  obtain⟨E,y0,l0,z0⟩:=c80 t0 fun n hn=>hwd n (.inl hn)
  obtain⟨R,y1,l1,z1⟩:=d1b t1 fun n hn=>hwd n (.inr (.inl hn))
  obtain⟨M,y2,l2,z2⟩:=d1c t2 fun n hn=>hwd n (.inr (.inr hn))
  refine⟨E,R,M,y0,y1,y2,⟨⟨l0,l1,l2.1⟩,l2.2⟩,fun e g0 g1 g2=>⟨⟨(z0 e k g0).1,(z1 e (k + 1) g1).1,(z2 e (k + 2) g2).1⟩,?_⟩⟩
  have:DenL (a64 w e) [.sl k E.length,.sl (k + 1) R.length,.sl (k + 2) M.length] [c0,c1,c2]:=DenL.cons (z0 e k g0).2 (DenL.cons (z1 e (k + 1) g1).2 (DenL.cons (z2 e (k + 2) g2).2 (DenL.nil _)))
  exact .agg this.1 this.2
end
theorem gTab:Tryz.prog.globalNamed "modelcheck/event.rows"=some 0:=by kernel_rfl
theorem c76:(Tryz.prog.globals[0]?).map (·.type)=some 161:=by kernel_rfl
theorem c85:a3o Tryz.prog 5 161=true:=by kernel_rfl
def d2c:List Col:=[.int .i64 (d9 a0m),.bool (q7 a29),.int .i64 (d9 a2s),.int .i64 (d9 a0l),.bool (q7 z5),.int .i64 (d9 z4),.int .i64 (d9 a3e),.bool (q7 a0h)]
theorem c9u:b8m (b29 5 (Rows.laid_modelcheck_event_rows:DataW Unit)) 8 d2c 17=true:=by kernel_rfl
theorem d13 {W:World} {e:Nat→Option (Option Addr × Nat)} (he:e 0=some (some ⟨0,0,none⟩,17)) (h:laidMetH Tryz.prog [("modelcheck/event.rows",Rows.laid_modelcheck_event_rows)] W):BR (a64 W e) W 0 tbl:=by
 have h0:laidMet Tryz.prog [("modelcheck/event.rows",Rows.laid_modelcheck_event_rows)] W:=h
 have hv:=c55 gTab c76 c85 h0
 have hc:∀ i,W.cell? ⟨0,i,none⟩=(b29 5 (Rows.laid_modelcheck_event_rows:DataW Unit))[i]?:=fun i=>by
  have:=World.var?_cell gTab hv i
  simpa using this
 refine⟨some ⟨0,0,none⟩,17,he,z0q _,fun _=>⟨⟨0,0,none⟩,rfl,?_,fun j hj k col hk=>?_⟩⟩
 ·obtain⟨v,hv',_⟩:=b56 c9u 0 (by omega) 0 _ rfl
  have:=hc (0 * 8 + 0)
  rw[hv'] at this
  exact World.block_lt_of_cell? W _ this
 ·obtain⟨v,hv',hd⟩:=b56 c9u j hj k col hk
  refine⟨v,?_,hd _ _⟩
  have:=hc (j * 8 + k)
  rw[hv'] at this
  simpa [Addr.add_lit] using this
theorem d14 {W:World} {fid:FuncId} {fn:Func} {K:Kit} {m0:List MBlk} {vs:List SV} {xs:List Value} {e:Nat→Option (Option Addr × Nat)} (hT:TabOk Tryz.prog K.tab) (hK:K.g=true) (hf:Tryz.prog.funcs[fid]?=some fn)
  (he0:e 0=some (some ⟨0,0,none⟩,17)) (hE:∀ i,e i≠none→i < m0.length) (hok:a0v m0=true) (hbr:∀ i k,m0[i]?=some k→e i≠none→BR (a64 W e) W i k) (hd:DenL (a64 W e) vs xs) (hv:p7 K.tab fn vs m0 (l4 .tt)) :
  Calls Tryz.prog fid xs.toArray W fun x W'=>x=.returned (.bool true)∧Below W.heap.size W W':=by
 refine Calls.mono (a9r (B:=⟨fun g=>g < W.heap.size,fun g=>g < W.heap.size⟩) (w0:=W) (ρ:=a64 W e) hT hf hv ⟨fun g hg=>hg,fun g hg=>.inl hg.2,fun g hg=>hg,.refl _ _,hbr,hE,fun _ _ h=>h.elim,fun _ _ _ h=>h.elim,fun _ _ _ _ _ _ h=>h.elim,fun r s k l a b c d hk _ ho=>?_⟩ ⟨fun g i hgi=>?_,fun p hp=>?_⟩ hd) fun x W' ⟨v,ρ',m',sv,hx,hdv,hm,hp,_⟩=>⟨?_,hm.below.below⟩
 ·rw[(b14 hok hk).2] at ho; cases ho
 ·have:i7 GL g=some i:=by simpa [Kit.tab,Kit.gl,hK] using hgi
  have h1:g=0∧i=0:=by
   have:=v8 this
   simpa [GL] using this
  obtain⟨rfl,rfl⟩:=h1
  exact⟨17,he0⟩
 ·cases hp
 ·rw[hx,(a4b _ _ _ hp hdv).tt_inv]
open Go Go.Proofs.YtaeeaniofljmnaaGreatDoor.Sx
noncomputable def b0u (os:Os):World:=
 { World.holding Tryz.prog os ⟨#[],#[],[]⟩ with heap:=(World.holding Tryz.prog os ⟨#[],#[],[]⟩).heap.modify 0 fun
   | .cells _ t frozen=>.cells (b29 5 (Rows.laid_modelcheck_event_rows:DataW Unit)).toArray t frozen
   | o=>o }
theorem c7i (os:Os) (args:Array Value):laidMet Tryz.prog [("modelcheck/event.rows",Rows.laid_modelcheck_event_rows)] ((b0u os).forCall (fun _ _=>0) ⟨#[],args,[]⟩).memory:=
 laidMet_of_run' 8 (by kernel_rfl) (by kernel_rfl)
def eG (y0 y1 y2:Option Addr × Nat):Nat→Option (Option Addr × Nat):=fun i=>[(some ⟨0,0,none⟩,17),y0,y1,y2][i]?
theorem d8v {y0 y1 y2:Option Addr × Nat} (E:List Ev) (R:List Int) (M:List (List Int)):∀ i,eG y0 y1 y2 i≠none→i < (grT E R M).length:=fun i hi=>by
 match i,hi with
 | 0,_ | 1,_ | 2,_ | 3,_=>simp[grT]
 | i + 4,hi=>exact absurd (by simp[eG]) hi
theorem d8u {W:World} {y0 y1 y2:Option Addr × Nat} {E:List Ev} {R:List Int} {M:List (List Int)} (b0:BR (a64 W (eG y0 y1 y2)) W 0 tbl) (b1:BR (a64 W (eG y0 y1 y2)) W 1 (.arr E.length (i6 E))) (b2:BR (a64 W (eG y0 y1 y2)) W 2 (.arr R.length (f7 R))) (b3:BR (a64 W (eG y0 y1 y2)) W 3 (.arr M.length (i4 M))):∀ i k,(grT E R M)[i]?=some k→eG y0 y1 y2 i≠none→BR (a64 W (eG y0 y1 y2)) W i k:=fun i k hk _=>by
 match i,hk with
 | 0,hk=>simp only[grT,z2j,z0a] at hk; subst hk; exact b0
 | 1,hk=>simp only[grT,z1p,z2j,z0a] at hk; subst hk; exact b1
 | 2,hk=>simp only[grT,z1p,z2j,z0a] at hk; subst hk; exact b2
 | 3,hk=>simp only[grT,z1p,z2j,z0a] at hk; subst hk; exact b3
 | i + 4,hk=>simp[grT] at hk
def rdG (P:List Pq) (L:List Int) (k i:Int):Bool:=!((b6 (0,0) P i.toNat).2 == k && decide (y6 L (b6 (0,0) P i.toNat).1 < 0))
def b07 (P:List Pq) (L:List Int) (k:Int):Bool:=m8 (rdG P L k) P.length
def d6k:SpP:=fun | [.lf (.r N l),.lf (.is L),.lf (.i k)]=>some ([L9 l∧L40 L.length],plB (b07 l L k)) | _=>none
def kRdy (nm:List (Option AV)):Nat × (List MBlk→List SV→Option AR):=(67,o5 EL none nm [.lf .r,.lf .is,.lf .i] d6k)
def psO (L:List Int) (x:Int):Int:=bif decide (x ≥ 0) then y6 L x else x
def orR (R:List Int) (L:List Int):List Int:=L.map (fun i=>psO L (inA R i))
def orM (M:List (List Int)) (L:List Int):List (List Int):=M.map (fun r=>r.map (y6 L))
def lC2 (E:List Ev) (f:Int→Int) (L:List Int) (t c a b r:Nat):LAnn:=q6 L.length t (fun _=>True) (fun j=>[(c,.cells [.sl a j,.sl b j,.sl r 0]),(a,.oarr 85 j (i6 (mpA (evA E) 0 L j))),(b,.oarr 3 j (f7 (mpA f 0 L j)))]) [a,b]
def lC3 (M:List (List Int)) (f:Int→Int) (n t c a b r:Nat):LAnn:=q6 M.length t (fun _=>True) (fun o=>[(c,.cells [.sl a n,.sl b n,.sl r o]),(r,.oarr 23 o (i4 (mpA (fun q=>q.map f) [] M o)))]) [r]
def lC4 (M:List (List Int)) (f:Int→Int) (t s e:Nat):PLoop:=⟨Nat,fun o=>{ X:=Nat,inv:=fun q=>q≤(q8 M o).length∧o < M.length,slots:=fun q=>[(t,.i .i64 (q:Int)),(s,.sl e q)],mem:=fun q=>[(e,.oarr 3 q (f7 (mpA f 0 (q8 M o) q)))],mu:=fun q=>(q8 M o).length - q,kill:=[e] }⟩
def d6l:SpG:=fun
 | [.ag [.es E,.is R,.rs M],.lf (.is L)]=>some ([pcA E R M L],.gr none (arE E L) (orR R L) (orM M L))
 | _=>none
def kReo (nm:List (Option AV)):Nat × (List MBlk→List SV→Option AR):=(68,o5 EL none nm [PG,.lf .is] d6l)
def d5d (a b:Ev):Bool:=a.ag == b.ag && (a.ix == b.ix && (a.k == b.k && (a.ob == b.ob && (a.mu == b.mu && (a.en == b.en && (a.od == b.od && (a.rd == b.rd && a.wr == b.wr)))))))
def b3k (l m:List Ev) (i:Int):Bool:=d5d (evA l i) (evA m i)
def smE (l m:List Ev):Bool:=!((l.length:Int) != (m.length:Int)) && m8 (b3k l m) l.length
def d6m:SpP:=fun | [.lf (.es l),.lf (.es m)]=>some ([L40 l.length],plB (smE l m)) | _=>none
def kSmE (nm:List (Option AV)):Nat × (List MBlk→List SV→Option AR):=(73,o5 EL none nm [.lf .es,.lf .es] d6m)
def kInt (nm:List (Option AV)):Nat × (List MBlk→List SV→Option AR):=(74,o5 EL none nm [.lf .is,.lf .is] c66)
def b3l (M M':List (List Int)) (x:Int):Bool:=!(w7 m7 (x6 M x) (x6 M' x) != 0)
def eqG (E:List Ev) (R:List Int) (M:List (List Int)) (E':List Ev) (R':List Int) (M':List (List Int)):Bool:=!((!smE E E' || w7 m7 R R' != 0) || (M.length:Int) != (M'.length:Int)) && m8 (b3l M M') M.length
def pcQ (E:List Ev) (R:List Int) (M:List (List Int)):Prop:=(L40 E.length∧L40 R.length∧L40 M.length)∧SzR M
def d6a:SpP:=fun
 | [.ag [.es E,.is R,.rs M],.ag [.es E',.is R',.rs M']]=>some ([pcQ E R M],plB (eqG E R M E' R' M'))
 | _=>none
def kEqu (nm:List (Option AV)):Nat × (List MBlk→List SV→Option AR):=(24,o5 EL none nm [PG,PG] d6a)
def nmG2 (E:List Ev) (R:List Int) (M:List (List Int)) (E':List Ev) (R':List Int) (M':List (List Int)):List (Option AV):=[some (.es E),some (.is R),some (.rs M),some (.es E'),some (.is R'),some (.rs M')]
theorem fo73:p8 Tryz.prog 73:=⟨Tryz.f73,Tryz.func73,by kernel_rfl,by kernel_rfl⟩
def q73D (l m:List Ev):Prop:=p7 (({ loops:=[(0,.of (lAl (b3k l m) l.length 5))] }:Kit)).tab Tryz.f73 [.sl 0 l.length,.sl 1 m.length] [.arr l.length (i6 l),.arr m.length (i6 m)] (l4 (.b (smE l m)))
theorem d87 (l m:List Ev):q73D l m=(
 let a:=(↑l.length:Int)
 let b:=(↑m.length:Int)
 let c:=PLoop.of (lAl (b3k l m) l.length (5:Nat))
 ((a !=b)=true→false=smE l m)∧((a !=b)=false→∃(x:PUnit),(∃(x:Nat),(x≤l.length∧m8 (b3k l m) x=true)∧((0:Int)=(↑x:Int)∧True)∧True)∧∀(x_1:Nat),x_1≤l.length∧m8 (b3k l m) x_1=true→(decide ((↑x_1:Int) < a)=true→((0:Int)≤(↑x_1:Int)∧(↑x_1:Int) < a)∧x_1 < l.length∧((0:Int)≤(↑x_1:Int)∧(↑x_1:Int) < b)∧x_1 < m.length∧((!((b6 e0 l x_1).ag ==(b6 e0 m x_1).ag && ((b6 e0 l x_1).ix ==(b6 e0 m x_1).ix && ((b6 e0 l x_1).k ==(b6 e0 m x_1).k && ((b6 e0 l x_1).ob ==(b6 e0 m x_1).ob && ((b6 e0 l x_1).mu ==(b6 e0 m x_1).mu && ((b6 e0 l x_1).en ==(b6 e0 m x_1).en && ((b6 e0 l x_1).od ==(b6 e0 m x_1).od && ((b6 e0 l x_1).rd ==(b6 e0 m x_1).rd && (b6 e0 l x_1).wr ==(b6 e0 m x_1).wr)))))))))=true→false=smE l m)∧((!((b6 e0 l x_1).ag ==(b6 e0 m x_1).ag && ((b6 e0 l x_1).ix ==(b6 e0 m x_1).ix && ((b6 e0 l x_1).k ==(b6 e0 m x_1).k && ((b6 e0 l x_1).ob ==(b6 e0 m x_1).ob && ((b6 e0 l x_1).mu ==(b6 e0 m x_1).mu && ((b6 e0 l x_1).en ==(b6 e0 m x_1).en && ((b6 e0 l x_1).od ==(b6 e0 m x_1).od && ((b6 e0 l x_1).rd ==(b6 e0 m x_1).rd && (b6 e0 l x_1).wr ==(b6 e0 m x_1).wr)))))))))=false→∃(x_2:Nat),(x_2≤l.length∧m8 (b3k l m) x_2=true)∧(c.ann x).mu x_2 < (c.ann x).mu x_1∧(l.length=l.length∧m.length=m.length∧IntKind.i64.wrap ((↑x_1:Int) + (1:Int))=(↑x_2:Int)∧l.length=l.length∧a=a∧m.length=m.length∧b=b∧false=false∧True)∧eqA l.length (i6 l)∧eqA m.length (i6 m)∧True))∧(decide ((↑x_1:Int) < a)=false→true=smE l m))):=by kernel_rfl
theorem v73 (l m:List Ev) (h:L40 l.length):q73D l m:=by
 rw[d87]
 simp only[eq_self,true_and,and_true,z0n,imp_self,l9,m6,n5,g7,g8,PLoop.of,q6,AV.len,g9,z0s,i9,j4,j5,l5,l6,l7,lAl]
 have h:l.length≤1099511627776:=h
 refine⟨fun hc=>by simp[smE,hc],fun hc=>⟨(),⟨0,⟨by omega,rfl⟩,rfl⟩,fun j hj=>⟨fun hlj=>?_,fun hlj=>?_⟩⟩⟩
 ·have hj2:j < l.length:=by have:=z0e hlj; omega
  have hlen:(l.length:Int)=m.length:=by simpa using hc
  refine⟨⟨by omega,by omega⟩,hj2,⟨by omega,by omega⟩,by omega,fun hd=>?_,fun hd=>⟨j + 1,⟨by omega,?_⟩,by omega,wrS (n:=l.length) hj2 h⟩⟩
  ·rw[z0v] at hd
   rw[smE,a0r (f:=b3k l m) hj2 hd,Bool.and_false]
  ·rw[z2w] at hd
   show(m8 (b3k l m) j && b3k l m j)=true
   rw[hj.2]; exact hd
 ·have hj2:j=l.length:=by have:=z0i hlj; omega
  subst hj2
  simp only[smE,hc,hj.2]
  rfl
theorem n73 (nm:List (Option AV)):CallOk Tryz.prog [] 73 (o5 EL none nm [.lf .es,.lf .es] d6m):=x4 Tryz.func73 fo73 fun av pre rv h=>by
 unfold d6m at h; split at h <;> cases h
 exact⟨⟨rfl,fun t a e=>by cases e <;> exact z0h _ _⟩,fun hp=>⟨_,v73 _ _ (hp _ (.head _)),rfl,t9,u4⟩⟩
theorem d0j {a b:Int} (h:a < b):m7 a b = -1:=by unfold m7; simp[h]
theorem d0i {a b:Int} (h:b < a):m7 a b=1:=by
 have:¬ a < b:=by omega
 unfold m7; simp[h,this]
theorem c35 {a b:Int} (h:¬ a < b) (h':¬ b < a):m7 a b=0:=by unfold m7; simp[h,h']
theorem fo74:p8 Tryz.prog 74:=⟨Tryz.f74,Tryz.func74,by kernel_rfl,by kernel_rfl⟩
def q74D (l m:List Int):Prop:=p7 (({ loops:=[(0,.of (b25 m7 0 l m 5))] }:Kit)).tab Tryz.f74 [.sl 0 l.length,.sl 1 m.length] [.arr l.length (f7 l),.arr m.length (f7 m)] (l4 (.i .i64 (w7 m7 l m)))
theorem d88 (l m:List Int):q74D l m=(
 let a:=(0:Int)
 let b:=(↑l.length:Int)
 let c:=(↑m.length:Int)
 let d:=PLoop.of (b25 m7 a l m (5:Nat))
 ∃(x:PUnit),(∃(x:Nat),(x≤l.length∧x≤m.length∧∀(q:Nat),q < x→m7 (b6 a l q) (b6 a m q)=a)∧(a=(↑x:Int)∧True)∧True)∧∀(x_1:Nat),(x_1≤l.length∧x_1≤m.length∧∀(q:Nat),q < x_1→m7 (b6 a l q) (b6 a m q)=a)→((decide ((↑x_1:Int) < b) && decide ((↑x_1:Int) < c))=true→(a≤(↑x_1:Int)∧(↑x_1:Int) < b)∧x_1 < l.length∧(a≤(↑x_1:Int)∧(↑x_1:Int) < c)∧x_1 < m.length∧(decide (b6 a l x_1 < b6 a m x_1)=true→(-1:Int)=w7 m7 l m)∧(decide (b6 a l x_1 < b6 a m x_1)=false→(a≤(↑x_1:Int)∧(↑x_1:Int) < b)∧x_1 < l.length∧(a≤(↑x_1:Int)∧(↑x_1:Int) < c)∧x_1 < m.length∧(decide (b6 a l x_1 > b6 a m x_1)=true→(1:Int)=w7 m7 l m)∧(decide (b6 a l x_1 > b6 a m x_1)=false→∃(x_2:Nat),(x_2≤l.length∧x_2≤m.length∧∀(q:Nat),q < x_2→m7 (b6 a l q) (b6 a m q)=a)∧(d.ann x).mu x_2 < (d.ann x).mu x_1∧(l.length=l.length∧m.length=m.length∧IntKind.i64.wrap ((↑x_1:Int) + (1:Int))=(↑x_2:Int)∧True)∧eqA l.length (f7 l)∧eqA m.length (f7 m)∧True)))∧((decide ((↑x_1:Int) < b) && decide ((↑x_1:Int) < c))=false→(decide (b < c)=true→(-1:Int)=w7 m7 l m)∧(decide (b < c)=false→(decide (b > c)=true→(1:Int)=w7 m7 l m)∧(decide (b > c)=false→a=w7 m7 l m)))):=by kernel_rfl
theorem v74 (l m:List Int) (h:L40 l.length):q74D l m:=by
 rw[d88]
 simp only[eq_self,true_and,and_true,z0n,imp_self,l9,m6,n5,g7,g8,PLoop.of,q6,AV.len,g9,z0s,i9,j4,j5,l5,l6,l7,b25]
 have h:l.length≤1099511627776:=h
 refine⟨(),⟨0,⟨by omega,by omega,fun q hq=>by omega⟩,rfl⟩,fun j hj=>⟨fun hlj=>?_,fun hlj=>?_⟩⟩
 ·simp only[z0d,z1i] at hlj
  have h1:j < l.length:=by omega
  have h2:j < m.length:=by omega
  refine⟨⟨by omega,by omega⟩,h1,⟨by omega,by omega⟩,h2,fun hd=>?_,fun hd=>⟨⟨by omega,by omega⟩,h1,⟨by omega,by omega⟩,h2,fun he=>?_,fun he=>⟨j + 1,⟨by omega,by omega,fun q hq=>?_⟩,by omega,wrS (n:=l.length) h1 h⟩⟩⟩
  ·have e:=d0j (z0e hd)
   rw[a9h (d:=0) hj.2.2 h1 h2 (by rw[e]; decide),e]
  ·have e:=d0i (z0e he)
   rw[a9h (d:=0) hj.2.2 h1 h2 (by rw[e]; decide),e]
  ·by_cases hq2:q=j
   ·subst hq2; exact c35 (z0i hd) (z0i he)
   ·exact hj.2.2 q (by omega)
 ·have hz:w7 m7 l m=bif decide (m.length < l.length) then 1 else bif decide (l.length < m.length) then -1 else 0:=a65 (d:=0) fun q h1 h2=>hj.2.2 q (by
   have:¬ (j < l.length∧j < m.length):=fun hc=>by
    have:(decide ((j:Int) < l.length) && decide ((j:Int) < m.length))=true:=by simp; omega
    rw[this] at hlj; cases hlj
   omega)
  rw[hz]
  refine⟨fun hd=>?_,fun hd=>⟨fun he=>?_,fun he=>?_⟩⟩
  ·have:=z0e hd
   rw[decide_eq_false (by omega),decide_eq_true (by omega)]; rfl
  ·have:=z0e he
   rw[decide_eq_true (by omega)]; rfl
  ·have:=z0i hd
   have:=z0i he
   rw[decide_eq_false (by omega),decide_eq_false (by omega)]; rfl
theorem n74 (nm:List (Option AV)):CallOk Tryz.prog [] 74 (o5 EL none nm [.lf .is,.lf .is] c66):=x4 Tryz.func74 fo74 fun av pre rv h=>by
 unfold c66 at h; split at h <;> cases h
 exact⟨⟨rfl,fun t a e=>by cases e <;> exact z0h _ _⟩,fun hp=>⟨_,v74 _ _ (hp _ (.head _)),rfl,t9,u4⟩⟩
theorem fo24:p8 Tryz.prog 24:=⟨Tryz.f24,Tryz.func24,by kernel_rfl,by kernel_rfl⟩
def q24D (E:List Ev) (R:List Int) (M:List (List Int)) (E':List Ev) (R':List Int) (M':List (List Int)):Prop:=p7 (({ calls:=[kSmE (nmG2 E R M E' R' M'),kInt (nmG2 E R M E' R' M')],loops:=[(0,.of (lAl (b3l M M') M.length 5))] }:Kit)).tab Tryz.f24 [grV E R M,.agg [.sl 3 E'.length,.sl 4 R'.length,.sl 5 M'.length]] (grM E R M ++ [.arr E'.length (i6 E'),.arr R'.length (f7 R'),.arr M'.length (i4 M')]) (l4 (.b (eqG E R M E' R' M')))
theorem d7e (E:List Ev) (R:List Int) (M:List (List Int)) (E':List Ev) (R':List Int) (M':List (List Int)):q24D E R M E' R' M'=(
 let a:=!smE E E' || w7 m7 R R' !=(0:Int)
 let b:=!smE E E' || w7 m7 R R' !=(0:Int) || (↑M.length:Int) !=(↑M'.length:Int)
 let c:=E'.length=E'.length∧R'.length=R'.length∧M'.length=M'.length
 let d:=E.length=E.length∧R.length=R.length∧M.length=M.length
 let e:=!smE E E'
 let f:=(0:Int)
 let g:=PLoop.of (lAl (b3l M M') M.length (5:Nat))
 let h:=(1099511627776:Nat)
 let k:=(↑M.length:Int)
 E.length=E.length∧nE E∧E'.length=E'.length∧mkN (fun(j:Nat)=>b6 e0 E' j) E'.length=E'∧E.length≤h∧(e=false→R.length=R.length)∧(e=false→nI R)∧(e=false→R'.length=R'.length)∧(e=false→mkN (b6 f R') R'.length=R')∧(e=false→R.length≤h)∧(b=true→false=eqG E R M E' R' M')∧(b=false→∃(x:PUnit),(∃(x:Nat),(x≤M.length∧m8 (b3l M M') x=true)∧(f=(↑x:Int)∧True)∧True)∧∀(x_1:Nat),x_1≤M.length∧m8 (b3l M M') x_1=true→(decide ((↑x_1:Int) < k)=true→(f≤(↑x_1:Int)∧(↑x_1:Int) < k)∧x_1 < M.length∧(f≤(↑x_1:Int)∧(↑x_1:Int) < (↑M'.length:Int))∧x_1 < M'.length∧(b6 [] M x_1).length=(b6 [] M x_1).length∧(b6 [] M' x_1).length=(b6 [] M' x_1).length∧(mkN (fun(i:Nat)=>b6 f (b6 [] M x_1) i) (b6 [] M x_1).length).length≤h∧((w7 m7 (mkN (fun(i:Nat)=>b6 f (b6 [] M x_1) i) (b6 [] M x_1).length) (mkN (fun(i:Nat)=>b6 f (b6 [] M' x_1) i) (b6 [] M' x_1).length) !=f)=true→false=eqG E R M E' R' M')∧((w7 m7 (mkN (fun(i:Nat)=>b6 f (b6 [] M x_1) i) (b6 [] M x_1).length) (mkN (fun(i:Nat)=>b6 f (b6 [] M' x_1) i) (b6 [] M' x_1).length) !=f)=false→∃(x_2:Nat),(x_2≤M.length∧m8 (b3l M M') x_2=true)∧(g.ann x).mu x_2 < (g.ann x).mu x_1∧(d∧c∧True∧True∧IntKind.i64.wrap ((↑x_1:Int) + (1:Int))=(↑x_2:Int)∧True∧E.length=E.length∧True∧E'.length=E'.length∧smE E E'=smE E E'∧e =!smE E E'∧e =!smE E E'∧a=a∧a=a∧false=false∧True)∧eqA E.length (i6 E)∧eqA R.length (f7 R)∧eqA M.length (i4 M)∧eqA E'.length (i6 E')∧eqA R'.length (f7 R')∧eqA M'.length (i4 M')∧d∧c∧True))∧(decide ((↑x_1:Int) < k)=false→true=eqG E R M E' R' M'))):=by kernel_rfl
theorem v24 (E:List Ev) (R:List Int) (M:List (List Int)) (E':List Ev) (R':List Int) (M':List (List Int)) (h:pcQ E R M):q24D E R M E' R' M':=by
 rw[d7e]
 obtain⟨⟨hE,hR,hM⟩,hS⟩:=h
 have hM:M.length≤1099511627776:=hM
 simp only[eq_self,true_and,and_true,z0n,imp_self,l9,m6,n5,g7,g8,PLoop.of,q6,AV.len,g9,z0s,i9,j4,j5,l5,l6,l7,lAl]
 refine⟨hE,fun _=>hR,fun hc=>by simp only[eqG,hc]; rfl,fun hc=>⟨(),⟨0,⟨by omega,rfl⟩,rfl⟩,fun j hj=>⟨fun hlj=>?_,fun hlj=>?_⟩⟩⟩
 ·have hj2:j < M.length:=by have:=z0e hlj; omega
  have hlen:(M.length:Int)=M'.length:=by
   simp only[z1k] at hc
   simpa using hc.2
  have hr:(b6 [] M j).length≤1099511627776:=hS _ (by rw[o6 [] M _ hj2]; exact z1r hj2)
  refine⟨⟨by omega,by omega⟩,hj2,⟨by omega,by omega⟩,by omega,hr,fun hd=>?_,fun hd=>⟨j + 1,⟨by omega,?_⟩,by omega,wrS (n:=M.length) hj2 hM⟩⟩
  ·rw[eqG,a0r (f:=b3l M M') hj2 (by show(!(w7 m7 (b6 [] M (j:Int).toNat) (b6 [] M' (j:Int).toNat) != 0))=false; rw[z1m,hd]; rfl),Bool.and_false]
  ·show(m8 (b3l M M') j && (!(w7 m7 (b6 [] M (j:Int).toNat) (b6 [] M' (j:Int).toNat) != 0)))=true
   rw[hj.2,z1m,hd]; rfl
 ·have hj2:j=M.length:=by have:=z0i hlj; omega
  subst hj2
  simp only[eqG,hc,hj.2]
  rfl
theorem n24 (nm:List (Option AV)):CallOk Tryz.prog [] 24 (o5 EL none nm [PG,PG] d6a):=x4 Tryz.func24 fo24 fun av pre rv h=>by
 unfold d6a at h; split at h <;> cases h
 exact⟨⟨rfl,fun t a e=>by cases e <;> exact z0h _ _⟩,fun hp=>⟨_,v24 _ _ _ _ _ _ (hp _ (.head _)),rfl,(m9 (n73 _) (m9 (n74 _) t9)),u4⟩⟩
def s8 (n:Int) (r:List Int):Nat→List Int
 | 0=>[]
 | q + 1=>bif decide (b6 0 r q < n) then s8 n r q ++ [b6 0 r q] else s8 n r q
def u7 (n:Int) (r:List Int):List Int:=s8 n r r.length
def a3n (n:Int) (R:List Int) (i:Int):Bool:=decide (inA R i < n)
def a5y (E:List Ev) (R:List Int) (M:List (List Int)) (n:Int):Int:=bif !b8 E R M then 1 else bif decide (n < 0) || decide (n > E.length) then 2 else bif m8 (a3n n R) n.toNat then 0 else 30
def pfK (E:List Ev) (R:List Int) (M:List (List Int)) (n:Int):Bool:=a5y E R M n == 0
def pfV (E:List Ev) (R:List Int) (M:List (List Int)) (n:Int):QV:=.gr (some (a5y E R M n)) (f8 (pfK E R M n) (E.take n.toNat)) (f8 (pfK E R M n) (R.take n.toNat)) (f8 (pfK E R M n) (M.map (u7 n)))
def lF3 (M:List (List Int)) (g:List Int→List Int) (n t c a b r:Nat):LAnn:=q6 M.length t (fun _=>True) (fun o=>[(c,.cells [.sl a n,.sl b n,.sl r o]),(r,.oarr 23 o (i4 (mpA g [] M o)))]) [r]
def lF4 (M:List (List Int)) (n:Int) (t s e:Nat):PLoop:=⟨Nat,fun o=>{ X:=Nat,inv:=fun q=>q≤(q8 M o).length∧o < M.length,slots:=fun q=>[(t,.i .i64 (q:Int)),(s,.sl e (s8 n (q8 M o) q).length)],mem:=fun q=>[(e,.oarr 3 (s8 n (q8 M o) q).length (f7 (s8 n (q8 M o) q)))],mu:=fun q=>(q8 M o).length - q,kill:=[e] }⟩
def c67:SpG:=fun
 | [.ag [.es E,.is R,.rs M],.lf (.i n)]=>some ([SzG E M],pfV E R M n)
 | _=>none
def d44 (nm:List (Option AV)):Nat × (List MBlk→List SV→Option AR):=(23,o5 EL none nm [PG,.lf .i] c67)
def d43 (nm:List (Option AV)):Nat × (List MBlk→List SV→Option AR):=(22,o5 EL gbT nm [PG,.lf .i] c67)
def d62:SpP:=fun | [.lf (.es l)]=>some ([L40 l.length],.rv (.sl (fun k=>.sl 0 k) (.es l))) | _=>none
def d63:SpP:=fun | [.lf (.is l)]=>some ([L40 l.length],.rv (.sl (fun k=>.sl 0 k) (.is l))) | _=>none
def kClE (nm:List (Option AV)):Nat × (List MBlk→List SV→Option AR):=(69,o5 EL none nm [.lf .es] d62)
def kClI (nm:List (Option AV)):Nat × (List MBlk→List SV→Option AR):=(70,o5 EL none nm [.lf .is] d63)
def b3q (n:Int):List Int→Nat→Int
 | [],_=>-1
 | x :: r,i=>bif decide (x ≥ n) then(i:Int) else b3q n r (i + 1)
def a3r (n:Int) (l:List Int):Int:=b3q n l 0
def d6e:SpP:=fun | [.lf (.is l),.cb 72 [.i n]]=>some ([L40 l.length],plI (a3r n l)) | _=>none
def kIdx (nm:List (Option AV)):Nat × (List MBlk→List SV→Option AR):=(122,o5 EL none nm [.lf .is,.cb 72 [.i]] d6e)
def d0y (l:List Int) (n:Int) (t:Nat):LAnn:=lAl (a3n n l) l.length t
noncomputable def pfxI:Nat × Inl:=(72,{ fn:=Tryz.f72 })
def a8c (n:Int) (r:List Int) (j k:Nat):Int:=bif Nat.blt k (s8 n r j).length then b6 0 (s8 n r j) k else b6 0 r k
def e0l:List Slot→List MBlk→List Gh:=fun sl m=>match nth sl 6 with
 | some ⟨_,.ptr c 0⟩=>(match nth m c with
  | some (.cells [.sl qa _,.sl qb _,_])=>[.mv qa,.mv qb,.mv c]
  | _=>[])
 | _=>[]
end Go.Proofs.YtaeeaniofljmnaaGreatDoor

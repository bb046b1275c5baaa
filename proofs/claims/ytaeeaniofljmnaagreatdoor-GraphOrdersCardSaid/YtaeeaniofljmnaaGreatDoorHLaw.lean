/-
  A part of the proof (HLaw).
-/
import Derived.Test.YtaeeaniofljmnaaGreatDoorH2
import Derived.Test.YtaeeaniofljmnaaGreatDoorH14
import Derived.Test.YtaeeaniofljmnaaGreatDoorH51a
import Derived.Test.YtaeeaniofljmnaaGreatDoorTx16
import Derived.Test.YtaeeaniofljmnaaGreatDoorTx14
import Derived.Test.YtaeeaniofljmnaaGreatDoorCards
import Derived.Test.YtaeeaniofljmnaaGreatDoorTie
import Derived.WalkKit
import Derived.ProofKit
import Derived.OpenShut
import Derived.Deep.DeepHandedRow
import Derived.SizedLaws
import Derived.Lib.LaidTab
import Derived.Test.YtaeeaniofljmnaaGreatDoorH27a
import Derived.Test.YtaeeaniofljmnaaGreatDoorH35a
import Derived.Test.YtaeeaniofljmnaaGreatDoorH40a
namespace Go.Proofs.YtaeeaniofljmnaaGreatDoor
set_option linter.unusedSimpArgs false
set_option linter.unusedVariables false
open Go Go.Proofs.YtaeeaniofljmnaaGreatDoor.Sx Go.ChangeShapes Go.WideShapes Go.ChangeAt Go.RowKit
set_option maxRecDepth 100000
theorem c61:laidOutB Tryz.prog=true:=by kernel_rfl
theorem c9q:ownKnob Tryz.prog.godebug=none:=by kernel_rfl
def a6f (w:World) (a:Addr):Int:=match w.cell? a with
 | some (.int _ n)=>n
 | _=>0
theorem b7s {w:World} {a:Addr} {u:Value} {k:IntKind} (h:w.cell? a=some u) (hk:b7t (some k) u):w.cell? a=some (.int k (a6f w a)):=by
 obtain⟨n,rfl,_⟩:=hk
 simp only[a6f,h]
def a5j (W:World) (E:Nat→Option (Option Addr × Nat)):Env:=⟨E,fun g=>g < W.heap.size,fun g=>g < W.heap.size,fun _ _=>False⟩
section
variable {H:Type} {enc:TypeId × Value→H} {P:Program} {w:World} {base:Nat} {sp:Nat→Bool} {held:Bool}
theorem b3k {f fuel:Nat} {t e:TypeId} {v:Value} {x:DataW H × List MemPlace} {ks:List (Option IntKind)} (ht:P.underlying t=some (.slice e)) (hk:a3a P f e=some ks) (hl:ks.length=P.cellsOf e) (h0:0 < ks.length) (hf:DataW.trod enc P w base sp held fuel t [v]=some x) :
  ∃ A n c,(n=0∨∃ es sp,x.1=.slice es sp∧es.length=n)∧v=.slice A n c∧n≤c∧(0 < n→∃ a,A=some a∧a.block < w.heap.size∧∀ j,j < n→∀(k:Nat) (kd:Option IntKind),ks[k]?=some kd→∃ u,w.cell? (a.add (j * ks.length + k))=some u∧b7t kd u):=by
 rcases DataW.trod_slice ht hf with⟨hz,_⟩ | ⟨a,len,cap,elems,rest,m,_,hz,rfl,_,hle,hmx,hel,hat,_⟩
 ·simp only[z2x,and_true] at hz
  exact⟨none,0,0,.inl rfl,hz,z0q _,fun h=>absurd h (z1l _)⟩
 ·simp only[z2x,and_true] at hz
  refine⟨some a,len,cap,.inr ⟨_,_,rfl,by rw[z3o]; exact hel⟩,hz,hle,fun hn=>?_⟩
  have hcell:∀ j,j < len→∀(k:Nat) (kd:Option IntKind),ks[k]?=some kd→∃ u,w.cell? (a.add (j * ks.length + k))=some u∧b7t kd u:=fun j hj k kd hkk=>by
   have h1:=hat j hj
   rw[z0i (by omega)] at h1
   rw[z2s] at h1
   obtain⟨cs,hcs1,hcs2⟩:=h1
   obtain⟨h2,_⟩:=b8b f m e cs _ _ ks hk (show DataW.trod enc P w base sp held m e cs=some (elems[j].1,elems[j].2) from hcs2)
   obtain⟨u,hu,hku⟩:=c07 h2 k kd hkk
   have hkl:=(z0c.1 hkk).1
   have:=b2l hcs1 k (by omega)
   rw[x6,hu,← hl] at this
   exact⟨u,this,hku⟩
  refine⟨a,rfl,?_,hcell⟩
  obtain⟨u,hu,_⟩:=hcell 0 hn 0 _ (z0i h0)
  have:=World.block_lt_of_cell? w _ hu
  rw[Sx.block_add] at this
  exact this
theorem d3j {a:Addr} {cs:List Value} (h:w.cells? base a 1=some cs):∃ u,cs=[u]∧w.cell? a=some u:=by
 have h1:=b2l h 0 (by omega)
 have h2:cs.length=1:=by
  unfold World.cells? at h
  split at h
  ·have:=(b5d h).1
   simpa using this
  ·cases h
 match cs,h2 with
 | [u],_ =>
  refine⟨u,rfl,?_⟩
  have e:a.add 0=a:=by cases a; simp[Addr.add]
  rw[e] at h1
  exact h1
theorem c49 {fuel:Nat} {t e:TypeId} {v:Value} {x:DataW H × List MemPlace} (ht:P.underlying t=some (.slice e)) (hc:P.cellsOf e=1) (hf:DataW.trod enc P w base sp held fuel t [v]=some x) :
  ∃ A n c,v=.slice A n c∧n≤c∧(n=0∨∃ es sp' a,x.1=.slice es sp'∧es.length=n∧A=some a∧∀ j,j < n→∃ u y m,w.cell? (a.add j)=some u∧DataW.trod enc P w base sp held m e [u]=some y∧es[j]?=some y.1):=by
 rcases DataW.trod_slice ht hf with⟨hz,_⟩ | ⟨a,len,cap,elems,rest,m,_,hz,rfl,_,hle,hmx,hel,hat,_⟩
 ·simp only[z2x,and_true] at hz
  exact⟨none,0,0,hz,z0q _,.inl rfl⟩
 ·simp only[z2x,and_true] at hz
  refine⟨some a,len,cap,hz,hle,.inr ⟨_,_,a,rfl,by rw[z3o]; exact hel,rfl,fun j hj=>?_⟩⟩
  have h1:=hat j hj
  rw[z0i (by omega),hc] at h1
  rw[z2s] at h1
  obtain⟨cs,hcs1,hcs2⟩:=h1
  obtain⟨u,rfl,hu⟩:=d3j hcs1
  rw[Nat.mul_one] at hu
  exact⟨u,elems[j],m,hu,hcs2,by rw[z3h,z0i (by omega)]; rfl⟩
end
def a9p (w:World):Value→List Int
 | .slice (some b) l _=>mkN (fun i=>a6f w (b.add (i * 1 + 0))) l
 | .slice none l _=>mkN (fun _=>0) l
 | _=>[]
theorem a3t {w:World} {A:Option Addr} {l c:Nat}:(a9p w (.slice A l c)).length=l:=by
 cases A <;> simp[a9p,g9]
section
variable {H:Type} {enc:TypeId × Value→H} {w:World} {base:Nat} {sp:Nat→Bool} {held:Bool}
theorem k85:a3a Tryz.prog 5 85=some [some .i64,some .i64,some .i64,some .i64,some .i64,some .i64,some .i64,some .i64,some .i64]:=by kernel_rfl
def evAt (w:World) (a:Addr) (j:Nat):Ev:=⟨a6f w (a.add (j * 9 + 0)),a6f w (a.add (j * 9 + 1)),a6f w (a.add (j * 9 + 2)),a6f w (a.add (j * 9 + 3)),a6f w (a.add (j * 9 + 4)),a6f w (a.add (j * 9 + 5)),a6f w (a.add (j * 9 + 6)),a6f w (a.add (j * 9 + 7)),a6f w (a.add (j * 9 + 8))⟩
theorem c6n {fuel:Nat} {v:Value} {x:DataW H × List MemPlace} (hf:DataW.trod enc Tryz.prog w base sp held fuel 22 [v]=some x) (hw:∀ n∈x.1.weights Tryz.prog 22,n≤reachBytes) :
  ∃(l:List Ev) (y:Option Addr × Nat),l.length≤17592186044416∧∀(E:Nat→Option (Option Addr × Nat)) (i:Nat),E i=some y→BR (a5j w E) w i (.arr l.length (l5 l))∧Den (a5j w E) (.sl i l.length) v:=by
 obtain⟨A,n,c,hwt,rfl,hnc,hc⟩:=b3k (f:=5) (t:=22) (e:=85) (by kernel_rfl) k85 (by kernel_rfl) (by simp) hf
 have hn:n≤17592186044416:=by
  rcases hwt with h | ⟨es,sp,h1,h2⟩
  ·omega
  ·have hs:Tryz.prog.underlying 22=some (.slice 85):=by kernel_rfl
   have hb:Tryz.prog.bytesOf 85=72:=by kernel_rfl
   have:=hw ((es.length + sp.length) * Tryz.prog.bytesOf 85) (by rw[h1]; simp[DataW.weights,hs])
   rw[hb] at this
   have hr:=reachBytes_lt
   omega
 cases A with
 | none =>
  have h0:n=0:=by
   cases n with
   | zero=>rfl
   | succ n=>obtain⟨a,ha,_⟩:=hc (Nat.succ_pos n); cases ha
  subst h0
  exact⟨[],(none,c),by simp,fun E i hE=>⟨⟨none,c,hE,hnc,fun h=>absurd h (z1l _)⟩,.sl hE (fun h=>absurd h (z1l _))⟩⟩
 | some a =>
  refine⟨mkN (evAt w a) n,(some a,c),by rw[g9]; exact hn,fun E i hE=>⟨⟨some a,c,hE,by rw[g9]; exact hnc,fun hn=>?_⟩,by rw[g9]; exact .sl hE (fun _=>by simp)⟩⟩
  rw[g9] at hn
  obtain⟨a',ha,hlt,hcell⟩:=hc hn
  simp only[z0a] at ha
  subst ha
  refine⟨a,rfl,hlt,fun j hj k col hcol=>?_⟩
  rw[g9] at hj
  have hkk:=(z0c.1 hcol).1
  have h9:k < 9:=hkk
  have hk9:([some .i64,some .i64,some .i64,some .i64,some .i64,some .i64,some .i64,some .i64,some .i64]:List (Option IntKind))[k]?=some (some .i64):=by
   match k,h9 with
   | 0,_ | 1,_ | 2,_ | 3,_ | 4,_ | 5,_ | 6,_ | 7,_ | 8,_=>rfl
  obtain⟨u,hu,hk⟩:=hcell j hj k (some .i64) hk9
  refine⟨_,b7s hu hk,?_⟩
  match k,h9,hcol with
  | 0,_,hcol | 1,_,hcol | 2,_,hcol | 3,_,hcol | 4,_,hcol | 5,_,hcol | 6,_,hcol | 7,_,hcol | 8,_,hcol =>
   simp only[l5,z2j,z1m,z0a] at hcol
   subst hcol
   simp only[j6,w7 _ _ hj]
   rfl
theorem b8u {fuel:Nat} {v:Value} {x:DataW H × List MemPlace} (hf:DataW.trod enc Tryz.prog w base sp held fuel 23 [v]=some x) (hw:∀ n∈x.1.weights Tryz.prog 23,n≤reachBytes) :
  ∃ A n c,v=.slice A n c∧n≤c∧n≤17592186044416∧(0 < n→∃ a,A=some a∧a.block < w.heap.size∧∀ i,i < n→w.cell? (a.add (i * 1 + 0))=some (.int .i64 (b6 0 (a9p w v) i))):=by
 obtain⟨A,n,c,hwt,rfl,hnc,hc⟩:=b3k (f:=5) (ks:=[some .i64]) (t:=23) (e:=3) (by kernel_rfl) (by kernel_rfl) (by kernel_rfl) (by simp) hf
 refine⟨A,n,c,rfl,hnc,?_,fun h=>?_⟩
 ·rcases hwt with h | ⟨es,sp,h1,h2⟩
  ·omega
  ·have hs:Tryz.prog.underlying 23=some (.slice 3):=by kernel_rfl
   have hb:Tryz.prog.bytesOf 3=8:=by kernel_rfl
   have:=hw ((es.length + sp.length) * Tryz.prog.bytesOf 3) (by rw[h1]; simp[DataW.weights,hs])
   rw[hb] at this
   have hr:=reachBytes_lt
   omega
 ·obtain⟨a,rfl,hlt,hcell⟩:=hc h
  refine⟨a,rfl,hlt,fun i hi=>?_⟩
  obtain⟨u,hu,hk⟩:=hcell i hi 0 (some .i64) rfl
  have hu':w.cell? (a.add (i * 1 + 0))=some u:=hu
  rw[b7s hu' hk,a9p,w7 _ _ hi]
theorem c9n {fuel:Nat} {v:Value} {x:DataW H × List MemPlace} (hf:DataW.trod enc Tryz.prog w base sp held fuel 23 [v]=some x) (hw:∀ n∈x.1.weights Tryz.prog 23,n≤reachBytes) :
  ∃(l:List Int) (y:Option Addr × Nat),l.length≤17592186044416∧∀(E:Nat→Option (Option Addr × Nat)) (i:Nat),E i=some y→BR (a5j w E) w i (.arr l.length (j5 l))∧Den (a5j w E) (.sl i l.length) v:=by
 obtain⟨A,n,c,rfl,hnc,hn,hc⟩:=b8u hf hw
 refine⟨a9p w (.slice A n c),(A,c),by rw[a3t]; exact hn,fun E i hE=>⟨⟨A,c,hE,by rw[a3t]; exact hnc,fun h0=>?_⟩,by
  rw[a3t]
  exact .sl hE (fun h0=>by obtain⟨a,rfl,_⟩:=hc h0; simp)⟩⟩
 rw[a3t] at h0
 obtain⟨a,rfl,hlt,hcell⟩:=hc h0
 refine⟨a,rfl,hlt,fun j hj k col hcol=>?_⟩
 rw[a3t] at hj
 match k,hcol with
 | 0,hcol =>
  simp[j5] at hcol
  subst hcol
  exact⟨_,hcell j hj,rfl⟩
 | k + 1,hcol=>simp[j5] at hcol
theorem b4e {P:Program} {e:TypeId} {d:DataW H} {k:Nat}:∀ {ds:List (DataW H)} {j:Nat},ds[j]?=some d→k∈d.weights P e→k∈DataW.weightsAll P e ds:=by
 intro ds
 induction ds with
 | nil=>intro j h _; simp at h
 | cons a r ih =>
  intro j h hk
  simp only[DataW.weightsAll,z0n]
  cases j with
  | zero=>simp at h; subst h; exact .inl hk
  | succ j=>exact .inr (ih (by simpa using h) hk)
theorem c9o {fuel:Nat} {v:Value} {x:DataW H × List MemPlace} (hf:DataW.trod enc Tryz.prog w base sp held fuel 24 [v]=some x) (hw:∀ n∈x.1.weights Tryz.prog 24,n≤reachBytes) :
  ∃(M:List (List Int)) (y:Option Addr × Nat),(M.length≤17592186044416∧∀ r∈M,r.length≤17592186044416)∧∀(E:Nat→Option (Option Addr × Nat)) (i:Nat),E i=some y→BR (a5j w E) w i (.arr M.length (j9 M))∧Den (a5j w E) (.sl i M.length) v:=by
 obtain⟨A,n,c,rfl,hnc,hc⟩:=c49 (t:=24) (e:=23) (by kernel_rfl) (by kernel_rfl) hf
 rcases hc with rfl | ⟨es,sp',a,hx,hel,rfl,hc⟩
 ·exact⟨[],(A,c),⟨by simp,fun r h=>by cases h⟩,fun E i hE=>⟨⟨A,c,hE,hnc,fun h=>absurd h (z1l _)⟩,.sl hE (fun h=>absurd h (z1l _))⟩⟩
 ·have hs:Tryz.prog.underlying 24=some (.slice 23):=by kernel_rfl
  have hb:Tryz.prog.bytesOf 23=24:=by kernel_rfl
  have hn:n≤17592186044416:=by
   have:=hw ((es.length + sp'.length) * Tryz.prog.bytesOf 23) (by rw[hx]; simp[DataW.weights,hs])
   rw[hb] at this
   have hr:=reachBytes_lt
   omega
  have hrow:∀ j,j < n→∃ A l c,w.cell? (a.add j)=some (.slice A l c)∧l≤c∧l≤17592186044416∧(0 < l→∃ b,A=some b∧b.block < w.heap.size∧∀ i,i < l→w.cell? (b.add (i * 1 + 0))=some (.int .i64 (b6 0 (a9p w (.slice A l c)) i))):=fun j hj=>by
   obtain⟨u,y,m,hu,hy,hes⟩:=hc j hj
   obtain⟨A,l,c,rfl,h1,h2,h3⟩:=b8u hy fun k hk=>hw k (by
    rw[hx]
    simp only[DataW.weights,hs,z0r,z0n]
    exact .inr (.inl (b4e hes hk)))
   exact⟨A,l,c,hu,h1,h2,h3⟩
  let g:Nat→List Int:=fun j=>match w.cell? (a.add j) with
   | some u=>a9p w u
   | none=>[]
  have hg:∀ {j u},w.cell? (a.add j)=some u→g j=a9p w u:=fun h=>by simp only[g,h]
  refine⟨mkN g n,(some a,c),⟨by rw[g9]; exact hn,fun r hr=>?_⟩,fun E i hE=>⟨⟨some a,c,hE,by rw[g9]; exact hnc,fun h0=>?_⟩,by rw[g9]; exact .sl hE (fun _=>by simp)⟩⟩
  ·obtain⟨j,hj,rfl⟩:=List.mem_iff_getElem.1 hr
   rw[g9] at hj
   obtain⟨A,l,c,hu,_,h2,_⟩:=hrow j hj
   rw[← q8 [] _ _ (by rw[g9]; exact hj),w7 _ _ hj,hg hu,a3t]
   exact h2
  ·rw[g9] at h0
   obtain⟨A0,l0,c0,hu0,_⟩:=hrow 0 h0
   have hlt:=World.block_lt_of_cell? w _ hu0
   rw[Sx.block_add] at hlt
   refine⟨a,rfl,hlt,fun j hj k col hcol=>?_⟩
   rw[g9] at hj
   match k,hcol with
   | 0,hcol =>
    simp[j9] at hcol
    subst hcol
    obtain⟨A,l,c,hu,h1,_,h3⟩:=hrow j hj
    have e:b6 [] (mkN g n) j=a9p w (.slice A l c):=by rw[w7 _ _ hj,hg hu]
    have el:(b6 [] (mkN g n) j).length=l:=by rw[e,a3t]
    refine⟨.slice A l c,by simpa [j9] using hu,?_⟩
    simp only[j6]
    refine⟨A,c,by rw[el],by rw[el]; exact h1,fun h0=>?_⟩
    rw[el] at h0
    obtain⟨b,rfl,hb,hcell⟩:=h3 h0
    refine⟨b,rfl,⟨hb,hb⟩,fun i hi k f hk=>?_⟩
    rw[el] at hi
    match k,hk with
    | 0,hk =>
     simp at hk
     subst hk
     have:=hcell i hi
     simp only[e]
     simpa using this
    | k + 1,hk=>simp at hk
   | k + 1,hcol=>simp[j9] at hcol
theorem f26:∃ f0 f1 f2,Tryz.prog.underlying 26=some (.struct #[f0,f1,f2])∧(f0.type=22∧f1.type=23∧f2.type=24)∧f0.offset=0∧f1.offset=1∧f2.offset=2:=by
 obtain⟨fs,h⟩:∃ fs,Tryz.prog.underlying 26=some (.struct fs):=by
  have:(match Tryz.prog.underlying 26 with | some (.struct _)=>true | _=>false)=true:=by kernel_rfl
  split at this
  ·exact⟨_,by assumption⟩
  ·cases this
 have hz:(match Tryz.prog.underlying 26 with | some (.struct fs)=>fs.map (fun f=>(f.type,f.offset)) | _=>#[]) = #[(22,0),(23,1),(24,2)]:=by kernel_rfl
 rw[h] at hz
 simp only at hz
 obtain⟨l⟩:=fs
 simp only[List.map_toArray,Array.mk.injEq] at hz
 match l,hz with
 | [f0,f1,f2],hz =>
  simp only[z2c,List.map_nil,z2x,z0f,and_true] at hz
  exact⟨f0,f1,f2,h,⟨hz.1.1,hz.2.1.1,hz.2.2.1⟩,hz.1.2,hz.2.1.2,hz.2.2.2⟩
theorem c0x {r:Reach} {b0:Nat} {v:Value} {d:DataW H} {p:List MemPlace} (hv:Value.okWide Tryz.prog w r b0 26 v) (h:DataW.Trod enc Tryz.prog w base sp held 26 v d p) (hw:∀ n∈d.weights Tryz.prog 26,n≤reachBytes) :
  ∃(E:List Ev) (R:List Int) (M:List (List Int)) (y0 y1 y2:Option Addr × Nat),SzF E R M∧∀(e:Nat→Option (Option Addr × Nat)),e 1=some y0→e 2=some y1→e 3=some y2→(BR (a5j w e) w 1 (.arr E.length (l5 E))∧BR (a5j w e) w 2 (.arr R.length (j5 R))∧BR (a5j w e) w 3 (.arr M.length (j9 M)))∧Den (a5j w e) (a98 E R M) v:=by
 obtain⟨f0,f1,f2,ht,⟨e0,e1,e2⟩,o0,o1,o2⟩:=f26
 obtain⟨cs,rfl,hsz⟩:=okWide_struct ht hv
 have h2:Tryz.prog.cellsOf 26=3:=by kernel_rfl
 rw[h2] at hsz
 obtain⟨c0,c1,c2,hcs⟩:∃ c0 c1 c2,cs = #[c0,c1,c2]:=by
  obtain⟨l⟩:=cs
  match l,hsz with
  | [c0,c1,c2],_=>exact⟨c0,c1,c2,rfl⟩
 subst hcs
 obtain⟨fuel,hf⟩:=h
 have hce:(Value.agg #[c0,c1,c2]).cells.toList=[c0,c1,c2]:=by simp[Value.cells]
 rw[hce] at hf
 obtain⟨xs,n,_,hx,_,hxl,hat⟩:=DataW.trod_struct ht hf
 match xs,hxl with
 | [x0,x1,x2],_ =>
  have t0:=hat 0 f0 rfl
  have t1:=hat 1 f1 rfl
  have t2:=hat 2 f2 rfl
  have q22:Tryz.prog.cellsOf 22=1:=by kernel_rfl
  have q23:Tryz.prog.cellsOf 23=1:=by kernel_rfl
  have q24:Tryz.prog.cellsOf 24=1:=by kernel_rfl
  rw[e0,o0,q22] at t0
  rw[e1,o1,q23] at t1
  rw[e2,o2,q24] at t2
  simp only[List.drop_zero,List.drop_succ_cons,List.take_succ_cons,List.take_zero,z2j,z1m] at t0 t1 t2
  have hd:d=.agg [x0.1,x1.1,x2.1]:=congrArg Prod.fst hx
  have hwd:∀ n,n∈x0.1.weights Tryz.prog 22∨n∈x1.1.weights Tryz.prog 23∨n∈x2.1.weights Tryz.prog 24→n≤reachBytes:=fun n hn=>hw n (by
   rw[hd]
   simp only[DataW.weights,ht,DataW.weightsEach,z2c,List.map_nil,e0,e1,e2,z0n,List.not_mem_nil,or_false]
   exact hn)
  obtain⟨E,y0,l0,z0⟩:=c6n t0 fun n hn=>hwd n (.inl hn)
  obtain⟨R,y1,l1,z1⟩:=c9n t1 fun n hn=>hwd n (.inr (.inl hn))
  obtain⟨M,y2,l2,z2⟩:=c9o t2 fun n hn=>hwd n (.inr (.inr hn))
  refine⟨E,R,M,y0,y1,y2,⟨⟨l0,l1,l2.1⟩,l2.2⟩,fun e g0 g1 g2=>⟨⟨(z0 e 1 g0).1,(z1 e 2 g1).1,(z2 e 3 g2).1⟩,?_⟩⟩
  have:DenL (a5j w e) [.sl 1 E.length,.sl 2 R.length,.sl 3 M.length] [c0,c1,c2]:=DenL.cons (z0 e 1 g0).2 (DenL.cons (z1 e 2 g1).2 (DenL.cons (z2 e 3 g2).2 (DenL.nil _)))
  exact .agg this.1 this.2
end
theorem gTab:Tryz.prog.globalNamed "modelcheck/event.rows"=some 0:=by kernel_rfl
theorem c5s:(Tryz.prog.globals[0]?).map (·.type)=some 161:=by kernel_rfl
theorem c6v:a3c Tryz.prog 5 161=true:=by kernel_rfl
def d0p:List Col:=[.int .i64 (e8 a09),.bool (o9 a1v),.int .i64 (e8 a2f),.int .i64 (e8 a08),.bool (o9 y4),.int .i64 (e8 y3),.int .i64 (e8 a32),.bool (o9 a04)]
theorem c8b:b7k (b1n 5 (Rows.laid_modelcheck_event_rows:DataW Unit)) 8 d0p 17=true:=by kernel_rfl
theorem c9g {W:World} {e:Nat→Option (Option Addr × Nat)} (he:e 0=some (some ⟨0,0,none⟩,17)) (h:laidMetH Tryz.prog [("modelcheck/event.rows",Rows.laid_modelcheck_event_rows)] W):BR (a5j W e) W 0 tbl:=by
 have h0:laidMet Tryz.prog [("modelcheck/event.rows",Rows.laid_modelcheck_event_rows)] W:=h
 have hv:=c3u gTab c5s c6v h0
 have hc:∀ i,W.cell? ⟨0,i,none⟩=(b1n 5 (Rows.laid_modelcheck_event_rows:DataW Unit))[i]?:=fun i=>by
  have:=World.var?_cell gTab hv i
  simpa using this
 refine⟨some ⟨0,0,none⟩,17,he,z0q _,fun _=>⟨⟨0,0,none⟩,rfl,?_,fun j hj k col hk=>?_⟩⟩
 ·obtain⟨v,hv',_⟩:=b46 c8b 0 (by omega) 0 _ rfl
  have:=hc (0 * 8 + 0)
  rw[hv'] at this
  exact World.block_lt_of_cell? W _ this
 ·obtain⟨v,hv',hd⟩:=b46 c8b j hj k col hk
  refine⟨v,?_,hd _ _⟩
  have:=hc (j * 8 + k)
  rw[hv'] at this
  simpa [Addr.add_lit] using this
theorem c9h {W:World} {fid:FuncId} {fn:Func} {K:Kit} {m0:List MBlk} {vs:List SV} {xs:List Value} {e:Nat→Option (Option Addr × Nat)} (hT:TabOk Tryz.prog K.tab) (hK:K.g=true) (hf:Tryz.prog.funcs[fid]?=some fn)
  (he0:e 0=some (some ⟨0,0,none⟩,17)) (hE:∀ i,e i≠none→i < m0.length) (hok:a0x m0=true) (hbr:∀ i k,m0[i]?=some k→e i≠none→BR (a5j W e) W i k) (hd:DenL (a5j W e) vs xs) (hv:n7 K.tab fn vs m0 (l4 .tt)) :
  Calls Tryz.prog fid xs.toArray W fun x W'=>x=.returned (.bool true)∧Below W.heap.size W W':=by
 refine Calls.mono (a95 (B:=⟨fun g=>g < W.heap.size,fun g=>g < W.heap.size⟩) (w0:=W) (ρ:=a5j W e) hT hf hv ⟨fun g hg=>hg,fun g hg=>.inl hg.2,fun g hg=>hg,.refl _ _,hbr,hE,fun _ _ h=>h.elim,fun _ _ _ h=>h.elim,fun _ _ _ _ _ _ h=>h.elim,fun r s k l a b c d hk _ ho=>?_⟩ ⟨fun g i hgi=>?_,fun p hp=>?_⟩ hd) fun x W' ⟨v,ρ',m',sv,hx,hdv,hm,hp,_⟩=>⟨?_,hm.below.below⟩
 ·rw[(b0i hok hk).2] at ho; cases ho
 ·have:i6 GL g=some i:=by simpa [Kit.tab,Kit.gl,hK] using hgi
  have h1:g=0∧i=0:=by
   have:=y6 this
   simpa [GL] using this
  obtain⟨rfl,rfl⟩:=h1
  exact⟨17,he0⟩
 ·cases hp
 ·rw[hx,(a3w _ _ _ hp hdv).tt_inv]
open Go Go.Proofs.YtaeeaniofljmnaaGreatDoor.Sx
noncomputable def b08 (os:Os):World:=
 { World.holding Tryz.prog os ⟨#[],#[],[]⟩ with heap:=(World.holding Tryz.prog os ⟨#[],#[],[]⟩).heap.modify 0 fun
   | .cells _ t frozen=>.cells (b1n 5 (Rows.laid_modelcheck_event_rows:DataW Unit)).toArray t frozen
   | o=>o }
theorem c62 (os:Os) (args:Array Value):laidMet Tryz.prog [("modelcheck/event.rows",Rows.laid_modelcheck_event_rows)] ((b08 os).forCall (fun _ _=>0) ⟨#[],args,[]⟩).memory:=
 laidMet_of_run' 8 (by kernel_rfl) (by kernel_rfl)
def eG (y0 y1 y2:Option Addr × Nat):Nat→Option (Option Addr × Nat):=fun i=>[(some ⟨0,0,none⟩,17),y0,y1,y2][i]?
theorem d6r {y0 y1 y2:Option Addr × Nat} (E:List Ev) (R:List Int) (M:List (List Int)):∀ i,eG y0 y1 y2 i≠none→i < (grT E R M).length:=fun i hi=>by
 match i,hi with
 | 0,_ | 1,_ | 2,_ | 3,_=>simp[grT]
 | i + 4,hi=>exact absurd (by simp[eG]) hi
theorem d6q {W:World} {y0 y1 y2:Option Addr × Nat} {E:List Ev} {R:List Int} {M:List (List Int)} (b0:BR (a5j W (eG y0 y1 y2)) W 0 tbl) (b1:BR (a5j W (eG y0 y1 y2)) W 1 (.arr E.length (l5 E))) (b2:BR (a5j W (eG y0 y1 y2)) W 2 (.arr R.length (j5 R))) (b3:BR (a5j W (eG y0 y1 y2)) W 3 (.arr M.length (j9 M))):∀ i k,(grT E R M)[i]?=some k→eG y0 y1 y2 i≠none→BR (a5j W (eG y0 y1 y2)) W i k:=fun i k hk _=>by
 match i,hk with
 | 0,hk=>simp only[grT,z2j,z0a] at hk; subst hk; exact b0
 | 1,hk=>simp only[grT,z1m,z2j,z0a] at hk; subst hk; exact b1
 | 2,hk=>simp only[grT,z1m,z2j,z0a] at hk; subst hk; exact b2
 | 3,hk=>simp only[grT,z1m,z2j,z0a] at hk; subst hk; exact b3
 | i + 4,hk=>simp[grT] at hk
structure VG (E:List Ev) (R:List Int) (M:List (List Int)):Prop where
 n:E.length≤64
 ev:∀ i:Int,0≤i→i < E.length→q6 (evA E i)=true
 src:∀ i:Int,0≤i→i < E.length→a1c E R i=true
 ob:∀ i:Int,0≤i→i < E.length→wrE (evA E i)=true→0≤(evA E i).ob∧(evA E i).ob < M.length
 mem:∀ i:Int,0≤i→i < E.length→wrE (evA E i)=true→i∈w8 M (evA E i).ob
 row:∀ o:Nat,o < M.length→(w8 M o).Nodup∧∀ x∈w8 M o,(0≤x∧x < E.length)∧wrE (evA E x)=true∧(evA E x).ob=o
theorem vg {E:List Ev} {R:List Int} {M:List (List Int)} (hv:b8 E R M=true):VG E R M:=by
 simp only[b8,z0d,z1p] at hv
 obtain⟨⟨⟨⟨⟨a1,a2⟩,a3⟩,a4⟩,a5⟩,a6⟩:=hv
 have hev:∀ i:Int,0≤i→i < E.length→a61 E M.length i=true:=fun i h0 h1=>by
  have:=a27.1 a4 i.toNat (by omega)
  rwa [z1b h0] at this
 have hob:=c27 a4
 have hrw:(a1b E M M.length && (((u4 M M.length).length:Int) == a1w E E.length))=true:=by rw[b7c hob]; exact a6
 simp only[z0d] at hrw
 have hrg:=a4i.1 hrw.1
 refine⟨a1,fun i h0 h1=>?_,fun i h0 h1=>?_,hob,fun i h0 h1 hw=>?_,fun o ho=>?_⟩
 ·have h:=hev i h0 h1
  simp only[a61,z0d] at h
  exact h.1.1.1.1.1
 ·have:=a27.1 a5 i.toNat (by omega)
  rwa [z1b h0] at this
 ·have ho:=hob i h0 h1 hw
  have h:=a27.1 a6 (evA E i).ob.toNat (by omega)
  rw[z1b ho.1] at h
  exact(a7o.1 h).1 i (a4j.2 ⟨h0,h1,a24.2 ⟨hw,rfl⟩⟩)
 ·obtain⟨h1,h2⟩:=a21.1 (hrg o ho)
  exact⟨h2,fun x hx=>⟨(h1 x hx).1,(h1 x hx).2.2.1,(h1 x hx).2.2.2⟩⟩
section
variable {E:List Ev} {R:List Int} {M:List (List Int)}
theorem c6t {f:Int→Option Int} {l:List Int} {x:Int}:∀ {q:Nat},(∀ j,j < q→b6 0 l j≠x)→a48 f l q x=f x:=by
 intro q
 induction q with
 | zero=>intro _; rfl
 | succ q ih =>
  intro h
  have h1:(x == b6 0 l q)=false:=by simpa using fun e=>h q (by omega) e.symm
  simp only[a48,h1,z0l]
  exact ih fun j hj=>h j (by omega)
theorem c9w {f:Int→Option Int} {l:List Int} {x:Int} {j:Nat} (hx:b6 0 l j=x):∀ {q:Nat},j < q→(∀ i,j < i→i < q→b6 0 l i≠x)→a48 f l q x=some (j:Int):=by
 intro q
 induction q with
 | zero=>intro h; omega
 | succ q ih =>
  intro h hn
  by_cases e:j=q
  ·subst e
   have h1:(x == b6 0 l j)=true:=by rw[hx]; simp
   simp only[a48,h1,z0g]
  ·have h1:(x == b6 0 l q)=false:=by simpa using fun e=>hn q (by omega) (by omega) e.symm
   simp only[a48,h1,z0l]
   exact ih (by omega) fun i h1 h2=>hn i h1 (by omega)
theorem c2e {l:List Int} (h:l.Nodup) {i j:Nat} (hi:i < l.length) (hj:j < l.length) (e:b6 0 l i=b6 0 l j):i=j:=by
 rw[q8 0 l i hi,q8 0 l j hj] at e
 have hp:=List.pairwise_iff_getElem.1 h
 rcases Nat.lt_trichotomy i j with hl | hl | hl
 ·exact absurd e (hp i j hi hj hl)
 ·exact hl
 ·exact absurd e.symm (hp j i hj hi hl)
theorem c9i {l:List Int} {x:Int} (h:x∈l):∃ j,j < l.length∧b6 0 l j=x:=by
 obtain⟨j,hj,e⟩:=List.mem_iff_getElem.1 h
 exact⟨j,hj,by rw[q8 0 l j hj]; exact e⟩
theorem c6l {l:List Int} {j:Nat} (hj:j < l.length):b6 0 l j∈l:=by rw[q8 0 l j hj]; exact z2e hj
theorem c9x (h:VG E R M) {x:Int} (h0:0≤x) (h1:x < E.length) (hw:wrE (evA E x)=true):∀ m:Nat,(evA E x).ob < (m:Int)→m≤M.length→a8m M m x=some (a4t (w8 M (evA E x).ob) x):=by
 have ho:=h.ob x h0 h1 hw
 intro m
 induction m with
 | zero=>intro h; omega
 | succ m ih =>
  intro hm hl
  by_cases e:(evA E x).ob=(m:Int)
  ·obtain⟨j,hj,hx⟩:=c9i (h.mem x h0 h1 hw)
   have hd:=(h.row m (by omega)).1
   rw[e] at hj hx ⊢
   rw[b3o (fun q hq e=>by have:=c2e hd (by omega) hj (e.trans hx.symm); omega) hj hx]
   exact c9w hx hj fun i h1 h2 e=>by have:=c2e hd h2 hj (e.trans hx.symm); omega
  ·have:a8m M (m + 1) x=a8m M m x:=c6t fun j hj e'=>by
    have:=((h.row m (by omega)).2 _ (c6l hj)).2.2
    rw[e'] at this
    exact e this
   rw[this]
   exact ih (by omega) (by omega)
theorem c6u (h:VG E R M) {x:Int} (h0:0≤x) (h1:x < E.length) (hw:wrE (evA E x)=true):a1e (plM M x)=a4t (w8 M (evA E x).ob) x:=by
 rw[plM,c9x h h0 h1 hw _ (h.ob x h0 h1 hw).2 (z0q _)]
 rfl
def onG (E:List Ev) (f g:Pf):Prop:=∀ i k:Int,0≤i→i < E.length→0≤k→k < E.length→f i k=g i k
theorem c6a (h:VG E R M):onG E (i4 E R M) (moG E R M):=fun i k hi0 hi hk0 hk=>by
 unfold i4 moG moB
 cases wi:wrE (evA E i)
 ·simp
 cases wk:wrE (evA E k)
 ·simp
 rw[c6u h hi0 hi wi,c6u h hk0 hk wk]
 by_cases e:(evA E i).ob=(evA E k).ob
 ·rw[e]
 ·have:((evA E i).ob == (evA E k).ob)=false:=by simpa using e
  simp[this]
theorem b42 (h:VG E R M) {i:Int} (h0:0≤i) (h1:i < E.length) (hr:rdE (evA E i)=true):inA R i = -1∨((0≤inA R i∧inA R i < E.length)∧wrE (evA E (inA R i))=true∧(evA E (inA R i)).ob=(evA E i).ob):=by
 have h:=h.src i h0 h1
 unfold a1c at h
 rw[hr] at h
 by_cases hb:inA R i < 0∨inA R i ≥ E.length
 ·have e:(decide (inA R i < 0) || decide (inA R i ≥ E.length))=true:=by simpa using hb
  simp only[z2z,z0l,e,z0g,beq_iff_eq] at h
  exact .inl h
 ·have e:(decide (inA R i < 0) || decide (inA R i ≥ E.length))=false:=by simp only[z1n,z1g]; omega
  simp only[z2z,z0l,e,z0d,beq_iff_eq] at h
  exact .inr ⟨by omega,h.1.2,h.2⟩
theorem b9i (h:VG E R M) {i:Int} (h0:0≤i) (h1:i < E.length) (hr:rdE (evA E i)=false):inA R i = -2:=by
 have h:=h.src i h0 h1
 unfold a1c at h
 rw[hr] at h
 simpa using h
theorem d2b (h:VG E R M):onG E (g8 E R M) (frG E R M):=fun i k hi0 hi hk0 hk=>by
 unfold g8 frG
 cases ri:rdE (evA E i)
 ·simp
 cases wk:wrE (evA E k)
 ·simp
 by_cases e:(evA E i).ob=(evA E k).ob
 ·have he:((evA E i).ob == (evA E k).ob)=true:=by simpa using e
  rw[he]
  cases hik:(!(i == k))
  ·simp
  simp only[z1w,z1o]
  rcases b42 h hi0 hi ri with hs | ⟨hb,ws,os⟩
  ·rw[hs]; rfl
  ·rw[← c6a h _ _ hb.1 hb.2 hk0 hk]
   have h1:decide (inA R i < 0)=false:=by simp only[z1g]; omega
   have h2:(inA R i == -1)=false:=by simp only[beq_eq_false_iff_ne,ne_eq]; omega
   have h3:((evA E (inA R i)).ob == (evA E k).ob)=true:=by rw[os]; exact he
   simp only[i4,h1,h2,h3,ws,wk,z1o,Bool.false_or]
 ·have:((evA E i).ob == (evA E k).ob)=false:=by simpa using e
  simp[this]
theorem c6f {e:Ev} (h:q6 e=true):a73 e=a9e e:=by
 simp only[q6,z0d] at h
 have h:=h.2
 unfold a73 a9e
 cases h1:(e.k == 9 || e.k == 10 || e.k == 11)
 ·simp only[z0l]
  cases h2:(e.k == 12)
  ·rw[h2] at h
   simp only[z0l,beq_iff_eq] at h
   simp only[z0l,h]
  ·rfl
 ·rfl
theorem d3g (h:VG E R M):onG E (f8 E R M) (syG E R M):=fun i k hi0 hi hk0 hk=>by
 unfold f8 syG a9r c82
 rw[c6f (h.ev i hi0 hi),c6f (h.ev k hk0 hk)]
theorem a5k (x:Int):∀ s,atF R x (s + 1)=atF R (inA R x) s:=by
 intro s
 induction s with
 | zero=>rfl
 | succ s ih=>simp only[atF] at ih ⊢; rw[ih]
theorem c8n {i:Int} (hi:0≤i):∀ {f:Nat} {x:Int},a44 E R i f x=true↔∃ j,j < f∧atF R x j=i∧(∀ l,l≤j→0≤atF R x l)∧∀ l,l < j→atF R x l≠i∧(evA E (atF R x l)).k=5:=by
 intro f
 induction f with
 | zero=>intro x; simp[a44]
 | succ f ih =>
  intro x
  unfold a44
  by_cases h0:x < 0
  ·simp only[h0,decide_true,z0g,z2g,false_iff]
   rintro ⟨j,_,_,h,_⟩
   have:=h 0 (by omega)
   simp only[atF] at this
   omega
  ·simp only[h0,decide_false,z0l]
   by_cases h1:x=i
   ·have e:(x == i)=true:=by simpa using h1
    simp only[e,z0g,true_iff]
    exact⟨0,by omega,h1,fun l hl=>by cases(show l=0 by omega); simp only[atF]; omega,fun l hl=>by omega⟩
   ·have e:(x == i)=false:=by simpa using h1
    simp only[e,z0l]
    by_cases h2:(evA E x).k=5
    ·have e2:((evA E x).k == 5)=true:=by simpa using h2
     simp only[e2,z0g,ih]
     constructor
     ·rintro ⟨j,hj,ha,hb,hc⟩
      refine⟨j + 1,by omega,by rw[a5k]; exact ha,fun l hl=>?_,fun l hl=>?_⟩
      ·cases l with
       | zero=>simp only[atF]; omega
       | succ l=>rw[a5k]; exact hb l (by omega)
      ·cases l with
       | zero=>exact⟨h1,h2⟩
       | succ l=>rw[a5k]; exact hc l (by omega)
     ·rintro ⟨j,hj,ha,hb,hc⟩
      cases j with
      | zero=>exact absurd ha h1
      | succ j =>
       rw[a5k] at ha
       refine⟨j,by omega,ha,fun l hl=>?_,fun l hl=>?_⟩
       ·have:=hb (l + 1) (by omega); rwa [a5k] at this
       ·have:=hc (l + 1) (by omega); rwa [a5k] at this
    ·have e2:((evA E x).k == 5)=false:=by simpa using h2
     simp only[e2,z0l,z2g,false_iff]
     rintro ⟨j,hj,ha,hb,hc⟩
     cases j with
     | zero=>exact h1 ha
     | succ j=>exact h2 (hc 0 (by omega)).2
theorem c1s (x:Int) (a:Nat):∀ s,atF R x (a + s)=atF R (atF R x a) s:=by
 intro s
 induction s with
 | zero=>rfl
 | succ s ih=>show inA R (atF R x (a + s))=_; rw[ih]; rfl
theorem d3l {x:Int} {j:Nat}:∀ {f s:Nat},(∀ l,s≤l→l≤j→a4n R x l=false)→s≤j→j < s + f→j < chS R x f s:=by
 intro f
 induction f with
 | zero=>intro s _ h1 h2; omega
 | succ f ih =>
  intro s h h1 h2
  rw[a6s (h s (z0q _) h1)]
  by_cases e:j=s
  ·have:=d3k R x f (s + 1); omega
  ·exact ih (fun l h3 h4=>h l (by omega) h4) (by omega) (by omega)
theorem d3f (h:VG E R M) (hR:b0x E R):onG E (p8 E R M) (swG E R M):=fun i k hi0 hi hk0 hk=>by
 rw[z2w]
 simp only[p8,a4v,c2n,c2m,swG,z0d,beq_iff_eq,c8n hi0]
 constructor
 ·rintro ⟨k',hk',hr,ho,j,hj,hp,ho2⟩
  simp only[z0f] at hp
  obtain⟨rfl,rfl⟩:=hp
  have hrg:∀ l,l≤j→0≤atF R (inA R k') l∧atF R (inA R k') l < E.length:=fun l hl=>b7u hR ⟨hk0,hk⟩ (Nat.lt_of_le_of_lt hl hj)
  have hw:∀ l,l≤j→wrE (evA E (atF R (inA R k') l))=true:=fun l hl=>by
   cases l with
   | zero =>
    rcases b42 h hk0 hk hr with hs | ⟨_,ws,_⟩
    ·have:=(hrg 0 (by omega)).1
     simp only[atF] at this
     omega
    ·exact ws
   | succ l =>
    have hl2:=hrg l (by omega)
    have hl3:=hrg (l + 1) hl
    simp only[atF] at hl3 ⊢
    cases hrd:rdE (evA E (atF R (inA R k') l))
    ·have:=b9i h hl2.1 hl2.2 hrd
     omega
    ·rcases b42 h hl2.1 hl2.2 hrd with hs | ⟨_,ws,_⟩
     ·omega
     ·exact ws
  have hk5:∀ l,l < j→(evA E (atF R (inA R k') l)).k=5:=fun l hl=>by
   have hl2:=hrg l (by omega)
   have hl3:=hrg (l + 1) (by omega)
   simp only[atF] at hl3
   cases hrd:rdE (evA E (atF R (inA R k') l))
   ·have:=b9i h hl2.1 hl2.2 hrd
    omega
   ·have h1:=hw l (by omega)
    simp only[wrE,z1q,beq_iff_eq] at h1
    simp only[rdE,a02,z1q,beq_iff_eq] at hrd
    omega
  have hvis:∀ l,l < j→atF R (inA R k') l≠atF R (inA R k') j:=fun l hl e=>by
   have:=b2o (z2i j) hj
   simp only[a4n,z1n] at this
   have h2:=this.2
   have:atF R (inA R k') j∈a2h R (inA R k') j:=b4d.2 ⟨l,hl,e.symm⟩
   rw[List.contains_iff_mem.2 this] at h2
   cases h2
  have hle:=c5j R (inA R k') (E.length + 1) 0
  exact⟨⟨⟨⟨hw j (z0q _),ho2⟩,hr⟩,ho⟩,j,by omega,rfl,fun l hl=>(hrg l hl).1,fun l hl=>⟨hvis l hl,hk5 l hl⟩⟩
 ·rintro ⟨⟨⟨⟨hw,ho2⟩,hr⟩,ho⟩,j,hj,ha,hb,hc⟩
  refine⟨k.toNat,by omega,by rwa [z1b hk0],by rwa [z1b hk0],j,?_,by rw[z1b hk0,ha],by rw[z1b hk0,ha]; exact ho2⟩
  rw[z1b hk0]
  refine d3l (fun l _ hl=>?_) (z2i _) (by omega)
  simp only[a4n,z1n,z1g]
  refine⟨by have:=hb l hl; omega,?_⟩
  cases hcn:(a2h R (inA R k) l).contains (atF R (inA R k) l)
  ·rfl
  ·exfalso
   obtain⟨p,hp,e⟩:=b4d.1 (List.contains_iff_mem.1 hcn)
   have e2:atF R (inA R k) (p + (j - l))=i:=by
    rw[c1s,← e,← c1s,show l + (j - l)=j by omega,ha]
   exact(hc (p + (j - l)) (by omega)).1 e2
theorem d8j:d6 ⟨#[112]⟩ E R M=poG E R M:=rfl
theorem d8k:d6 ⟨#[114]⟩ E R M=rfG E R M:=rfl
theorem d8i:d6 ⟨#[109]⟩ E R M=moG E R M:=rfl
theorem d8h:d6 ⟨#[102]⟩ E R M=frG E R M:=rfl
theorem d8l:d6 ⟨#[115]⟩ E R M=syG E R M:=rfl
theorem d8m:d6 ⟨#[119]⟩ E R M=swG E R M:=rfl
theorem d0t:d6 ⟨#[112,115,119]⟩ E R M=fun i k=>poG E R M i k || syG E R M i k || swG E R M i k:=rfl
theorem d0u:d6 ⟨#[114,109,102]⟩ E R M=fun i k=>rfG E R M i k || moG E R M i k || frG E R M i k:=rfl
theorem b71 {f g:Pf} (h:onG E f g):b7 E.length f=b7 E.length g:=b18 fun a b ha hb=>h a b (by omega) ha (by omega) hb
theorem c5k {a b c a' b' c':Pf} (ha:onG E a a') (hb:onG E b b') (hc:onG E c c'):a34 E.length a b c=c30 E.length (fun i k=>a' i k || b' i k || c' i k):=by
 have:d9 (b7 E.length a ++ b7 E.length b ++ b7 E.length c)=d9 (b7 E.length (fun i k=>a' i k || b' i k || c' i k)):=by
  funext i k
  rw[z2w,b40,b40]
  simp only[z1q,a7m]
  constructor
  ·rintro ((⟨h1,h2,h3,h4,h5⟩ | ⟨h1,h2,h3,h4,h5⟩) | ⟨h1,h2,h3,h4,h5⟩)
   ·exact⟨h1,h2,h3,h4,.inl (.inl (by rw[← ha i k h1 h2 h3 h4]; exact h5))⟩
   ·exact⟨h1,h2,h3,h4,.inl (.inr (by rw[← hb i k h1 h2 h3 h4]; exact h5))⟩
   ·exact⟨h1,h2,h3,h4,.inr (by rw[← hc i k h1 h2 h3 h4]; exact h5)⟩
  ·rintro ⟨h1,h2,h3,h4,h5⟩
   rw[← ha i k h1 h2 h3 h4,← hb i k h1 h2 h3 h4,← hc i k h1 h2 h3 h4] at h5
   rcases h5 with(h5 | h5) | h5
   ·exact .inl (.inl ⟨h1,h2,h3,h4,h5⟩)
   ·exact .inl (.inr ⟨h1,h2,h3,h4,h5⟩)
   ·exact .inr ⟨h1,h2,h3,h4,h5⟩
 rw[a34,c30,this]
end
section
variable {E:List Ev} {R:List Int} {M:List (List Int)}
theorem a9y {v:Bool} {l m:List Pq} (h:v=true→l=m):i9 v l=i9 v m:=by
 cases v
 ·rfl
 ·rw[h rfl]
theorem d8u:vL E R M (d6 ⟨#[112]⟩)=vL E R M poG:=by unfold vL; rw[d8j]
theorem d8v:vL E R M (d6 ⟨#[114]⟩)=vL E R M rfG:=by unfold vL; rw[d8k]
theorem d8t:vL E R M (d6 ⟨#[109]⟩)=vL E R M i4:=by unfold vL; rw[d8i]; exact a9y fun hv=>(b71 (c6a (vg hv))).symm
theorem d8s:vL E R M (d6 ⟨#[102]⟩)=vL E R M g8:=by unfold vL; rw[d8h]; exact a9y fun hv=>(b71 (d2b (vg hv))).symm
theorem d8x:vL E R M (d6 ⟨#[115]⟩)=vL E R M f8:=by unfold vL; rw[d8l]; exact a9y fun hv=>(b71 (d3g (vg hv))).symm
theorem d8w (hs:SzG E M):vL E R M (d6 ⟨#[119]⟩)=vL E R M p8:=by unfold vL; rw[d8m]; exact a9y fun hv=>(b71 (d3f (vg hv) (a0f hv hs).1.2.1)).symm
theorem d8r (hs:SzG E M):vC E R M (d6 ⟨#[112,115,119]⟩)=vC1 E R M poG f8 p8:=by
 unfold vC vC1
 rw[d0t]
 exact a9y fun hv=>(c5k (fun _ _ _ _ _ _=>rfl) (d3g (vg hv)) (d3f (vg hv) (a0f hv hs).1.2.1)).symm
theorem d8q:vC E R M (d6 ⟨#[114,109,102]⟩)=vC1 E R M rfG i4 g8:=by
 unfold vC vC1
 rw[d0u]
 exact a9y fun hv=>(c5k (fun _ _ _ _ _ _=>rfl) (c6a (vg hv)) (d2b (vg hv))).symm
theorem c34 (l:List Pq):∀ j,a93 l l j=true:=by
 intro j
 induction j with
 | zero=>rfl
 | succ j ih=>simp[a93,ih]
theorem a30 (N:Int) (l:List Pq):s5 N l N l=true:=by simp[s5,c34]
theorem b5z (f:GF):(vL E R M f).length≤1099511627776:=by
 unfold vL
 cases hv:b8 E R M
 ·simp[i9]
 ·exact c2d _ (vg hv).n
theorem c8h (a b c:GF):(vC1 E R M a b c).length≤1099511627776:=by
 unfold vC1
 cases hv:b8 E R M
 ·simp[i9]
 ·exact c2d _ (vg hv).n
end
end Go.Proofs.YtaeeaniofljmnaaGreatDoor

/-
  A part of the proof (G52).
-/
import Derived.Test.YtaeeaniofljmnaaGreatDoorG1
import Derived.Test.YtaeeaniofljmnaaGreatDoorG14
import Derived.Test.YtaeeaniofljmnaaGreatDoorG51a
import Derived.Test.YtaeeaniofljmnaaGreatDoorSx16
import Derived.Test.YtaeeaniofljmnaaGreatDoorSx14
import Derived.Test.YtaeeaniofljmnaaGreatDoorCards
import Derived.Test.YtaeeaniofljmnaaGreatDoorTie
import Derived.WalkKit
import Derived.ProofKit
import Derived.OpenShut
import Derived.Deep.DeepHandedRow
import Derived.SizedLaws
import Derived.Lib.LaidTab
import Derived.Test.YtaeeaniofljmnaaGreatDoorG27a
import Derived.Test.YtaeeaniofljmnaaGreatDoorG35a
import Derived.Test.YtaeeaniofljmnaaGreatDoorG40a
namespace Go.Proofs.YtaeeaniofljmnaaGreatDoor
set_option linter.unusedSimpArgs false
set_option linter.unusedVariables false
open Go Go.Proofs.YtaeeaniofljmnaaGreatDoor.Sx Go.ChangeShapes Go.WideShapes Go.ChangeAt Go.RowKit
set_option maxRecDepth 100000
theorem c8t:laidOutB Tryz.prog=true:=by kernel_rfl
theorem c9l:ownKnob Tryz.prog.godebug=none:=by kernel_rfl
def a6o (w:World) (a:Addr):Int:=match w.cell? a with
 | some (.int _ n)=>n
 | _=>0
theorem b9d {w:World} {a:Addr} {u:Value} {k:IntKind} (h:w.cell? a=some u) (hk:b99 (some k) u):w.cell? a=some (.int k (a6o w a)):=by
 obtain⟨n,rfl,_⟩:=hk
 simp only[a6o,h]
def a5x (W:World) (E:Nat→Option (Option Addr × Nat)):Env:=⟨E,fun g=>g < W.heap.size,fun g=>g < W.heap.size,fun _ _=>False⟩
section
variable {H:Type} {enc:TypeId × Value→H} {P:Program} {w:World} {base:Nat} {sp:Nat→Bool} {held:Bool}
theorem b4d {f fuel:Nat} {t e:TypeId} {v:Value} {x:DataW H × List MemPlace} {ks:List (Option IntKind)} (ht:P.underlying t=some (.slice e)) (hk:a3d P f e=some ks) (hl:ks.length=P.cellsOf e) (h0:0 < ks.length) (hf:DataW.trod enc P w base sp held fuel t [v]=some x) :
  ∃ A n c,(n=0∨∃ es sp,x.1=.slice es sp∧es.length=n)∧v=.slice A n c∧n≤c∧(0 < n→∃ a,A=some a∧a.block < w.heap.size∧∀ j,j < n→∀(k:Nat) (kd:Option IntKind),ks[k]?=some kd→∃ u,w.cell? (a.add (j * ks.length + k))=some u∧b99 kd u):=by
 rcases DataW.trod_slice ht hf with⟨hz,_⟩ | ⟨a,len,cap,elems,rest,m,_,hz,rfl,_,hle,hmx,hel,hat,_⟩
 ·simp only[z2z,and_true] at hz
  exact⟨none,0,0,.inl rfl,hz,z0q _,fun h=>absurd h (z1m _)⟩
 ·simp only[z2z,and_true] at hz
  refine⟨some a,len,cap,.inr ⟨_,_,rfl,by rw[z3p]; exact hel⟩,hz,hle,fun hn=>?_⟩
  have hcell:∀ j,j < len→∀(k:Nat) (kd:Option IntKind),ks[k]?=some kd→∃ u,w.cell? (a.add (j * ks.length + k))=some u∧b99 kd u:=fun j hj k kd hkk=>by
   have h1:=hat j hj
   rw[z0i (by omega)] at h1
   rw[z2u] at h1
   obtain⟨cs,hcs1,hcs2⟩:=h1
   obtain⟨h2,_⟩:=c00 f m e cs _ _ ks hk (show DataW.trod enc P w base sp held m e cs=some (elems[j].1,elems[j].2) from hcs2)
   obtain⟨u,hu,hku⟩:=c1z h2 k kd hkk
   have hkl:=(z0c.1 hkk).1
   have:=b3l hcs1 k (by omega)
   rw[x8,hu,← hl] at this
   exact⟨u,this,hku⟩
  refine⟨a,rfl,?_,hcell⟩
  obtain⟨u,hu,_⟩:=hcell 0 hn 0 _ (z0i h0)
  have:=World.block_lt_of_cell? w _ hu
  rw[Sx.block_add] at this
  exact this
theorem d7c {a:Addr} {cs:List Value} (h:w.cells? base a 1=some cs):∃ u,cs=[u]∧w.cell? a=some u:=by
 have h1:=b3l h 0 (by omega)
 have h2:cs.length=1:=by
  unfold World.cells? at h
  split at h
  ·have:=(b6a h).1
   simpa using this
  ·cases h
 match cs,h2 with
 | [u],_ =>
  refine⟨u,rfl,?_⟩
  have e:a.add 0=a:=by cases a; simp[Addr.add]
  rw[e] at h1
  exact h1
theorem c3k {fuel:Nat} {t e:TypeId} {v:Value} {x:DataW H × List MemPlace} (ht:P.underlying t=some (.slice e)) (hc:P.cellsOf e=1) (hf:DataW.trod enc P w base sp held fuel t [v]=some x) :
  ∃ A n c,v=.slice A n c∧n≤c∧(n=0∨∃ es sp' a,x.1=.slice es sp'∧es.length=n∧A=some a∧∀ j,j < n→∃ u y m,w.cell? (a.add j)=some u∧DataW.trod enc P w base sp held m e [u]=some y∧es[j]?=some y.1):=by
 rcases DataW.trod_slice ht hf with⟨hz,_⟩ | ⟨a,len,cap,elems,rest,m,_,hz,rfl,_,hle,hmx,hel,hat,_⟩
 ·simp only[z2z,and_true] at hz
  exact⟨none,0,0,hz,z0q _,.inl rfl⟩
 ·simp only[z2z,and_true] at hz
  refine⟨some a,len,cap,hz,hle,.inr ⟨_,_,a,rfl,by rw[z3p]; exact hel,rfl,fun j hj=>?_⟩⟩
  have h1:=hat j hj
  rw[z0i (by omega),hc] at h1
  rw[z2u] at h1
  obtain⟨cs,hcs1,hcs2⟩:=h1
  obtain⟨u,rfl,hu⟩:=d7c hcs1
  rw[Nat.mul_one] at hu
  exact⟨u,elems[j],m,hu,hcs2,by rw[z3j,z0i (by omega)]; rfl⟩
end
def b05 (w:World):Value→List Int
 | .slice (some b) l _=>mkN (fun i=>a6o w (b.add (i * 1 + 0))) l
 | .slice none l _=>mkN (fun _=>0) l
 | _=>[]
theorem a3t {w:World} {A:Option Addr} {l c:Nat}:(b05 w (.slice A l c)).length=l:=by
 cases A <;> simp[b05,g9]
section
variable {H:Type} {enc:TypeId × Value→H} {w:World} {base:Nat} {sp:Nat→Bool} {held:Bool}
theorem k85:a3d Tryz.prog 5 85=some [some .i64,some .i64,some .i64,some .i64,some .i64,some .i64,some .i64,some .i64,some .i64]:=by kernel_rfl
def evAt (w:World) (a:Addr) (j:Nat):Ev:=⟨a6o w (a.add (j * 9 + 0)),a6o w (a.add (j * 9 + 1)),a6o w (a.add (j * 9 + 2)),a6o w (a.add (j * 9 + 3)),a6o w (a.add (j * 9 + 4)),a6o w (a.add (j * 9 + 5)),a6o w (a.add (j * 9 + 6)),a6o w (a.add (j * 9 + 7)),a6o w (a.add (j * 9 + 8))⟩
theorem c81 {fuel:Nat} {v:Value} {x:DataW H × List MemPlace} (hf:DataW.trod enc Tryz.prog w base sp held fuel 22 [v]=some x) (hw:∀ n∈x.1.weights Tryz.prog 22,n≤reachBytes) :
  ∃(l:List Ev) (y:Option Addr × Nat),l.length≤17592186044416∧∀(E:Nat→Option (Option Addr × Nat)) (i:Nat),E i=some y→BR (a5x w E) w i (.arr l.length (l5 l))∧Den (a5x w E) (.sl i l.length) v:=by
 obtain⟨A,n,c,hwt,rfl,hnc,hc⟩:=b4d (f:=5) (t:=22) (e:=85) (by kernel_rfl) k85 (by kernel_rfl) (by simp) hf
 have hn:n≤17592186044416:=by
  rcases hwt with h | ⟨es,sp,h1,h2⟩
  ·omega
  ·have hs:Tryz.prog.underlying 22=some (.slice 85):=by kernel_rfl
   have hb:Tryz.prog.bytesOf 85=72:=by kernel_rfl
   have:=hw ((es.length + sp.length) * Tryz.prog.bytesOf 85) (by rw[h1]; simp[DataW.weights,hs])
   rw[hb] at this
   have hr:=reachBytes_lt
   omega
 cases A with
 | none =>
  have h0:n=0:=by
   cases n with
   | zero=>rfl
   | succ n=>obtain⟨a,ha,_⟩:=hc (Nat.succ_pos n); cases ha
  subst h0
  exact⟨[],(none,c),by simp,fun E i hE=>⟨⟨none,c,hE,hnc,fun h=>absurd h (z1m _)⟩,.sl hE (fun h=>absurd h (z1m _))⟩⟩
 | some a =>
  refine⟨mkN (evAt w a) n,(some a,c),by rw[g9]; exact hn,fun E i hE=>⟨⟨some a,c,hE,by rw[g9]; exact hnc,fun hn=>?_⟩,by rw[g9]; exact .sl hE (fun _=>by simp)⟩⟩
  rw[g9] at hn
  obtain⟨a',ha,hlt,hcell⟩:=hc hn
  simp only[z0a] at ha
  subst ha
  refine⟨a,rfl,hlt,fun j hj k col hcol=>?_⟩
  rw[g9] at hj
  have hkk:=(z0c.1 hcol).1
  have h9:k < 9:=hkk
  have hk9:([some .i64,some .i64,some .i64,some .i64,some .i64,some .i64,some .i64,some .i64,some .i64]:List (Option IntKind))[k]?=some (some .i64):=by
   match k,h9 with
   | 0,_ | 1,_ | 2,_ | 3,_ | 4,_ | 5,_ | 6,_ | 7,_ | 8,_=>rfl
  obtain⟨u,hu,hk⟩:=hcell j hj k (some .i64) hk9
  refine⟨_,b9d hu hk,?_⟩
  match k,h9,hcol with
  | 0,_,hcol | 1,_,hcol | 2,_,hcol | 3,_,hcol | 4,_,hcol | 5,_,hcol | 6,_,hcol | 7,_,hcol | 8,_,hcol =>
   simp only[l5,z2m,z1n,z0a] at hcol
   subst hcol
   simp only[j5,w6 _ _ hj]
   rfl
theorem b88 {fuel:Nat} {v:Value} {x:DataW H × List MemPlace} (hf:DataW.trod enc Tryz.prog w base sp held fuel 23 [v]=some x) (hw:∀ n∈x.1.weights Tryz.prog 23,n≤reachBytes) :
  ∃ A n c,v=.slice A n c∧n≤c∧n≤17592186044416∧(0 < n→∃ a,A=some a∧a.block < w.heap.size∧∀ i,i < n→w.cell? (a.add (i * 1 + 0))=some (.int .i64 (b6 0 (b05 w v) i))):=by
 obtain⟨A,n,c,hwt,rfl,hnc,hc⟩:=b4d (f:=5) (ks:=[some .i64]) (t:=23) (e:=3) (by kernel_rfl) (by kernel_rfl) (by kernel_rfl) (by simp) hf
 refine⟨A,n,c,rfl,hnc,?_,fun h=>?_⟩
 ·rcases hwt with h | ⟨es,sp,h1,h2⟩
  ·omega
  ·have hs:Tryz.prog.underlying 23=some (.slice 3):=by kernel_rfl
   have hb:Tryz.prog.bytesOf 3=8:=by kernel_rfl
   have:=hw ((es.length + sp.length) * Tryz.prog.bytesOf 3) (by rw[h1]; simp[DataW.weights,hs])
   rw[hb] at this
   have hr:=reachBytes_lt
   omega
 ·obtain⟨a,rfl,hlt,hcell⟩:=hc h
  refine⟨a,rfl,hlt,fun i hi=>?_⟩
  obtain⟨u,hu,hk⟩:=hcell i hi 0 (some .i64) rfl
  have hu':w.cell? (a.add (i * 1 + 0))=some u:=hu
  rw[b9d hu' hk,b05,w6 _ _ hi]
theorem d1u {fuel:Nat} {v:Value} {x:DataW H × List MemPlace} (hf:DataW.trod enc Tryz.prog w base sp held fuel 23 [v]=some x) (hw:∀ n∈x.1.weights Tryz.prog 23,n≤reachBytes) :
  ∃(l:List Int) (y:Option Addr × Nat),l.length≤17592186044416∧∀(E:Nat→Option (Option Addr × Nat)) (i:Nat),E i=some y→BR (a5x w E) w i (.arr l.length (i9 l))∧Den (a5x w E) (.sl i l.length) v:=by
 obtain⟨A,n,c,rfl,hnc,hn,hc⟩:=b88 hf hw
 refine⟨b05 w (.slice A n c),(A,c),by rw[a3t]; exact hn,fun E i hE=>⟨⟨A,c,hE,by rw[a3t]; exact hnc,fun h0=>?_⟩,by
  rw[a3t]
  exact .sl hE (fun h0=>by obtain⟨a,rfl,_⟩:=hc h0; simp)⟩⟩
 rw[a3t] at h0
 obtain⟨a,rfl,hlt,hcell⟩:=hc h0
 refine⟨a,rfl,hlt,fun j hj k col hcol=>?_⟩
 rw[a3t] at hj
 match k,hcol with
 | 0,hcol =>
  simp[i9] at hcol
  subst hcol
  exact⟨_,hcell j hj,rfl⟩
 | k + 1,hcol=>simp[i9] at hcol
theorem b39 {P:Program} {e:TypeId} {d:DataW H} {k:Nat}:∀ {ds:List (DataW H)} {j:Nat},ds[j]?=some d→k∈d.weights P e→k∈DataW.weightsAll P e ds:=by
 intro ds
 induction ds with
 | nil=>intro j h _; simp at h
 | cons a r ih =>
  intro j h hk
  simp only[DataW.weightsAll,z0o]
  cases j with
  | zero=>simp at h; subst h; exact .inl hk
  | succ j=>exact .inr (ih (by simpa using h) hk)
theorem d0n {fuel:Nat} {v:Value} {x:DataW H × List MemPlace} (hf:DataW.trod enc Tryz.prog w base sp held fuel 24 [v]=some x) (hw:∀ n∈x.1.weights Tryz.prog 24,n≤reachBytes) :
  ∃(M:List (List Int)) (y:Option Addr × Nat),(M.length≤17592186044416∧∀ r∈M,r.length≤17592186044416)∧∀(E:Nat→Option (Option Addr × Nat)) (i:Nat),E i=some y→BR (a5x w E) w i (.arr M.length (j8 M))∧Den (a5x w E) (.sl i M.length) v:=by
 obtain⟨A,n,c,rfl,hnc,hc⟩:=c3k (t:=24) (e:=23) (by kernel_rfl) (by kernel_rfl) hf
 rcases hc with rfl | ⟨es,sp',a,hx,hel,rfl,hc⟩
 ·exact⟨[],(A,c),⟨by simp,fun r h=>by cases h⟩,fun E i hE=>⟨⟨A,c,hE,hnc,fun h=>absurd h (z1m _)⟩,.sl hE (fun h=>absurd h (z1m _))⟩⟩
 ·have hs:Tryz.prog.underlying 24=some (.slice 23):=by kernel_rfl
  have hb:Tryz.prog.bytesOf 23=24:=by kernel_rfl
  have hn:n≤17592186044416:=by
   have:=hw ((es.length + sp'.length) * Tryz.prog.bytesOf 23) (by rw[hx]; simp[DataW.weights,hs])
   rw[hb] at this
   have hr:=reachBytes_lt
   omega
  have hrow:∀ j,j < n→∃ A l c,w.cell? (a.add j)=some (.slice A l c)∧l≤c∧l≤17592186044416∧(0 < l→∃ b,A=some b∧b.block < w.heap.size∧∀ i,i < l→w.cell? (b.add (i * 1 + 0))=some (.int .i64 (b6 0 (b05 w (.slice A l c)) i))):=fun j hj=>by
   obtain⟨u,y,m,hu,hy,hes⟩:=hc j hj
   obtain⟨A,l,c,rfl,h1,h2,h3⟩:=b88 hy fun k hk=>hw k (by
    rw[hx]
    simp only[DataW.weights,hs,z0r,z0o]
    exact .inr (.inl (b39 hes hk)))
   exact⟨A,l,c,hu,h1,h2,h3⟩
  let g:Nat→List Int:=fun j=>match w.cell? (a.add j) with
   | some u=>b05 w u
   | none=>[]
  have hg:∀ {j u},w.cell? (a.add j)=some u→g j=b05 w u:=fun h=>by simp only[g,h]
  refine⟨mkN g n,(some a,c),⟨by rw[g9]; exact hn,fun r hr=>?_⟩,fun E i hE=>⟨⟨some a,c,hE,by rw[g9]; exact hnc,fun h0=>?_⟩,by rw[g9]; exact .sl hE (fun _=>by simp)⟩⟩
  ·obtain⟨j,hj,rfl⟩:=List.mem_iff_getElem.1 hr
   rw[g9] at hj
   obtain⟨A,l,c,hu,_,h2,_⟩:=hrow j hj
   rw[← s4 [] _ _ (by rw[g9]; exact hj),w6 _ _ hj,hg hu,a3t]
   exact h2
  ·rw[g9] at h0
   obtain⟨A0,l0,c0,hu0,_⟩:=hrow 0 h0
   have hlt:=World.block_lt_of_cell? w _ hu0
   rw[Sx.block_add] at hlt
   refine⟨a,rfl,hlt,fun j hj k col hcol=>?_⟩
   rw[g9] at hj
   match k,hcol with
   | 0,hcol =>
    simp[j8] at hcol
    subst hcol
    obtain⟨A,l,c,hu,h1,_,h3⟩:=hrow j hj
    have e:b6 [] (mkN g n) j=b05 w (.slice A l c):=by rw[w6 _ _ hj,hg hu]
    have el:(b6 [] (mkN g n) j).length=l:=by rw[e,a3t]
    refine⟨.slice A l c,by simpa [j8] using hu,?_⟩
    simp only[j5]
    refine⟨A,c,by rw[el],by rw[el]; exact h1,fun h0=>?_⟩
    rw[el] at h0
    obtain⟨b,rfl,hb,hcell⟩:=h3 h0
    refine⟨b,rfl,⟨hb,hb⟩,fun i hi k f hk=>?_⟩
    rw[el] at hi
    match k,hk with
    | 0,hk =>
     simp at hk
     subst hk
     have:=hcell i hi
     simp only[e]
     simpa using this
    | k + 1,hk=>simp at hk
   | k + 1,hcol=>simp[j8] at hcol
theorem f26:∃ f0 f1 f2,Tryz.prog.underlying 26=some (.struct #[f0,f1,f2])∧(f0.type=22∧f1.type=23∧f2.type=24)∧f0.offset=0∧f1.offset=1∧f2.offset=2:=by
 obtain⟨fs,h⟩:∃ fs,Tryz.prog.underlying 26=some (.struct fs):=by
  have:(match Tryz.prog.underlying 26 with | some (.struct _)=>true | _=>false)=true:=by kernel_rfl
  split at this
  ·exact⟨_,by assumption⟩
  ·cases this
 have hz:(match Tryz.prog.underlying 26 with | some (.struct fs)=>fs.map (fun f=>(f.type,f.offset)) | _=>#[]) = #[(22,0),(23,1),(24,2)]:=by kernel_rfl
 rw[h] at hz
 simp only at hz
 obtain⟨l⟩:=fs
 simp only[List.map_toArray,Array.mk.injEq] at hz
 match l,hz with
 | [f0,f1,f2],hz =>
  simp only[z2d,List.map_nil,z2z,z0f,and_true] at hz
  exact⟨f0,f1,f2,h,⟨hz.1.1,hz.2.1.1,hz.2.2.1⟩,hz.1.2,hz.2.1.2,hz.2.2.2⟩
theorem c1t {r:Reach} {b0:Nat} {v:Value} {d:DataW H} {p:List MemPlace} (hv:Value.okWide Tryz.prog w r b0 26 v) (h:DataW.Trod enc Tryz.prog w base sp held 26 v d p) (hw:∀ n∈d.weights Tryz.prog 26,n≤reachBytes) :
  ∃(E:List Ev) (R:List Int) (M:List (List Int)) (y0 y1 y2:Option Addr × Nat),SzF E R M∧∀(e:Nat→Option (Option Addr × Nat)),e 1=some y0→e 2=some y1→e 3=some y2→(BR (a5x w e) w 1 (.arr E.length (l5 E))∧BR (a5x w e) w 2 (.arr R.length (i9 R))∧BR (a5x w e) w 3 (.arr M.length (j8 M)))∧Den (a5x w e) (b1x E R M) v:=by
 obtain⟨f0,f1,f2,ht,⟨e0,e1,e2⟩,o0,o1,o2⟩:=f26
 obtain⟨cs,rfl,hsz⟩:=okWide_struct ht hv
 have h2:Tryz.prog.cellsOf 26=3:=by kernel_rfl
 rw[h2] at hsz
 obtain⟨c0,c1,c2,hcs⟩:∃ c0 c1 c2,cs = #[c0,c1,c2]:=by
  obtain⟨l⟩:=cs
  match l,hsz with
  | [c0,c1,c2],_=>exact⟨c0,c1,c2,rfl⟩
 subst hcs
 obtain⟨fuel,hf⟩:=h
 have hce:(Value.agg #[c0,c1,c2]).cells.toList=[c0,c1,c2]:=by simp[Value.cells]
 rw[hce] at hf
 obtain⟨xs,n,_,hx,_,hxl,hat⟩:=DataW.trod_struct ht hf
 match xs,hxl with
 | [x0,x1,x2],_ =>
  have t0:=hat 0 f0 rfl
  have t1:=hat 1 f1 rfl
  have t2:=hat 2 f2 rfl
  have q22:Tryz.prog.cellsOf 22=1:=by kernel_rfl
  have q23:Tryz.prog.cellsOf 23=1:=by kernel_rfl
  have q24:Tryz.prog.cellsOf 24=1:=by kernel_rfl
  rw[e0,o0,q22] at t0
  rw[e1,o1,q23] at t1
  rw[e2,o2,q24] at t2
  simp only[List.drop_zero,List.drop_succ_cons,List.take_succ_cons,List.take_zero,z2m,z1n] at t0 t1 t2
  have hd:d=.agg [x0.1,x1.1,x2.1]:=congrArg Prod.fst hx
  have hwd:∀ n,n∈x0.1.weights Tryz.prog 22∨n∈x1.1.weights Tryz.prog 23∨n∈x2.1.weights Tryz.prog 24→n≤reachBytes:=fun n hn=>hw n (by
   rw[hd]
   simp only[DataW.weights,ht,DataW.weightsEach,z2d,List.map_nil,e0,e1,e2,z0o,List.not_mem_nil,or_false]
   exact hn)
  obtain⟨E,y0,l0,z0⟩:=c81 t0 fun n hn=>hwd n (.inl hn)
  obtain⟨R,y1,l1,z1⟩:=d1u t1 fun n hn=>hwd n (.inr (.inl hn))
  obtain⟨M,y2,l2,z2⟩:=d0n t2 fun n hn=>hwd n (.inr (.inr hn))
  refine⟨E,R,M,y0,y1,y2,⟨⟨l0,l1,l2.1⟩,l2.2⟩,fun e g0 g1 g2=>⟨⟨(z0 e 1 g0).1,(z1 e 2 g1).1,(z2 e 3 g2).1⟩,?_⟩⟩
  have:DenL (a5x w e) [.sl 1 E.length,.sl 2 R.length,.sl 3 M.length] [c0,c1,c2]:=DenL.cons (z0 e 1 g0).2 (DenL.cons (z1 e 2 g1).2 (DenL.cons (z2 e 3 g2).2 (DenL.nil _)))
  exact .agg this.1 this.2
end
theorem gTab:Tryz.prog.globalNamed "modelcheck/event.rows"=some 0:=by kernel_rfl
theorem c7m:(Tryz.prog.globals[0]?).map (·.type)=some 161:=by kernel_rfl
theorem c69:a3j Tryz.prog 5 161=true:=by kernel_rfl
def c9t:List Col:=[.int .i64 (e8 a0c),.bool (p7 a1x),.int .i64 (e8 a2i),.int .i64 (e8 a0b),.bool (p7 y5),.int .i64 (e8 y4),.int .i64 (e8 a30),.bool (p7 a01)]
theorem c6v:b6c (b1w 5 (Rows.laid_modelcheck_event_rows:DataW Unit)) 8 c9t 17=true:=by kernel_rfl
theorem d16 {W:World} {e:Nat→Option (Option Addr × Nat)} (he:e 0=some (some ⟨0,0,none⟩,17)) (h:laidMetH Tryz.prog [("modelcheck/event.rows",Rows.laid_modelcheck_event_rows)] W):BR (a5x W e) W 0 tbl:=by
 have h0:laidMet Tryz.prog [("modelcheck/event.rows",Rows.laid_modelcheck_event_rows)] W:=h
 have hv:=c5i gTab c7m c69 h0
 have hc:∀ i,W.cell? ⟨0,i,none⟩=(b1w 5 (Rows.laid_modelcheck_event_rows:DataW Unit))[i]?:=fun i=>by
  have:=World.var?_cell gTab hv i
  simpa using this
 refine⟨some ⟨0,0,none⟩,17,he,z0q _,fun _=>⟨⟨0,0,none⟩,rfl,?_,fun j hj k col hk=>?_⟩⟩
 ·obtain⟨v,hv',_⟩:=b3w c6v 0 (by omega) 0 _ rfl
  have:=hc (0 * 8 + 0)
  rw[hv'] at this
  exact World.block_lt_of_cell? W _ this
 ·obtain⟨v,hv',hd⟩:=b3w c6v j hj k col hk
  refine⟨v,?_,hd _ _⟩
  have:=hc (j * 8 + k)
  rw[hv'] at this
  simpa [Addr.add_lit] using this
theorem d2w {W:World} {fid:FuncId} {fn:Func} {K:Kit} {m0:List MBlk} {vs:List SV} {xs:List Value} {e:Nat→Option (Option Addr × Nat)} (hT:TabOk Tryz.prog K.tab) (hK:K.g=true) (hf:Tryz.prog.funcs[fid]?=some fn)
  (he0:e 0=some (some ⟨0,0,none⟩,17)) (hE:∀ i,e i≠none→i < m0.length) (hok:a0v m0=true) (hbr:∀ i k,m0[i]?=some k→e i≠none→BR (a5x W e) W i k) (hd:DenL (a5x W e) vs xs) (hv:n7 K.tab fn vs m0 (j9 .tt)) :
  Calls Tryz.prog fid xs.toArray W fun x W'=>x=.returned (.bool true)∧Below W.heap.size W W':=by
 refine Calls.mono (a9q (B:=⟨fun g=>g < W.heap.size,fun g=>g < W.heap.size⟩) (w0:=W) (ρ:=a5x W e) hT hf hv ⟨fun g hg=>hg,fun g hg=>.inl hg.2,fun g hg=>hg,.refl _ _,hbr,hE,fun _ _ h=>h.elim,fun _ _ _ h=>h.elim,fun _ _ _ _ _ _ h=>h.elim,fun r s k l a b c d hk _ ho=>?_⟩ ⟨fun g i hgi=>?_,fun p hp=>?_⟩ hd) fun x W' ⟨v,ρ',m',sv,hx,hdv,hm,hp,_⟩=>⟨?_,hm.below.below⟩
 ·rw[(b0s hok hk).2] at ho; cases ho
 ·have:i7 GL g=some i:=by simpa [Kit.tab,Kit.gl,hK] using hgi
  have h1:g=0∧i=0:=by
   have:=y8 this
   simpa [GL] using this
  obtain⟨rfl,rfl⟩:=h1
  exact⟨17,he0⟩
 ·cases hp
 ·rw[hx,(a41 _ _ _ hp hdv).tt_inv]
open Go Go.Proofs.YtaeeaniofljmnaaGreatDoor.Sx
noncomputable def b14 (os:Os):World:=
 { World.holding Tryz.prog os ⟨#[],#[],[]⟩ with heap:=(World.holding Tryz.prog os ⟨#[],#[],[]⟩).heap.modify 0 fun
   | .cells _ t frozen=>.cells (b1w 5 (Rows.laid_modelcheck_event_rows:DataW Unit)).toArray t frozen
   | o=>o }
theorem c7o (os:Os) (args:Array Value):laidMet Tryz.prog [("modelcheck/event.rows",Rows.laid_modelcheck_event_rows)] ((b14 os).forCall (fun _ _=>0) ⟨#[],args,[]⟩).memory:=
 laidMet_of_run' 8 (by kernel_rfl) (by kernel_rfl)
def eG (y0 y1 y2:Option Addr × Nat):Nat→Option (Option Addr × Nat):=fun i=>[(some ⟨0,0,none⟩,17),y0,y1,y2][i]?
theorem d9b {y0 y1 y2:Option Addr × Nat} (E:List Ev) (R:List Int) (M:List (List Int)):∀ i,eG y0 y1 y2 i≠none→i < (grT E R M).length:=fun i hi=>by
 match i,hi with
 | 0,_ | 1,_ | 2,_ | 3,_=>simp[grT]
 | i + 4,hi=>exact absurd (by simp[eG]) hi
theorem d80 {W:World} {y0 y1 y2:Option Addr × Nat} {E:List Ev} {R:List Int} {M:List (List Int)} (b0:BR (a5x W (eG y0 y1 y2)) W 0 tbl) (b1:BR (a5x W (eG y0 y1 y2)) W 1 (.arr E.length (l5 E))) (b2:BR (a5x W (eG y0 y1 y2)) W 2 (.arr R.length (i9 R))) (b3:BR (a5x W (eG y0 y1 y2)) W 3 (.arr M.length (j8 M))):∀ i k,(grT E R M)[i]?=some k→eG y0 y1 y2 i≠none→BR (a5x W (eG y0 y1 y2)) W i k:=fun i k hk _=>by
 match i,hk with
 | 0,hk=>simp only[grT,z2m,z0a] at hk; subst hk; exact b0
 | 1,hk=>simp only[grT,z1n,z2m,z0a] at hk; subst hk; exact b1
 | 2,hk=>simp only[grT,z1n,z2m,z0a] at hk; subst hk; exact b2
 | 3,hk=>simp only[grT,z1n,z2m,z0a] at hk; subst hk; exact b3
 | i + 4,hk=>simp[grT] at hk
structure VG (E:List Ev) (R:List Int) (M:List (List Int)):Prop where
 n:E.length≤64
 ev:∀ i:Int,0≤i→i < E.length→q7 (evA E i)=true
 src:∀ i:Int,0≤i→i < E.length→a18 E R i=true
 ob:∀ i:Int,0≤i→i < E.length→wrE (evA E i)=true→0≤(evA E i).ob∧(evA E i).ob < M.length
 mem:∀ i:Int,0≤i→i < E.length→wrE (evA E i)=true→i∈w9 M (evA E i).ob
 row:∀ o:Nat,o < M.length→(w9 M o).Nodup∧∀ x∈w9 M o,(0≤x∧x < E.length)∧wrE (evA E x)=true∧(evA E x).ob=o
theorem vg {E:List Ev} {R:List Int} {M:List (List Int)} (hv:b8 E R M=true):VG E R M:=by
 simp only[b8,z0d,z1p] at hv
 obtain⟨⟨⟨⟨⟨a1,a2⟩,a3⟩,a4⟩,a5⟩,a6⟩:=hv
 have hev:∀ i:Int,0≤i→i < E.length→a6d E M.length i=true:=fun i h0 h1=>by
  have:=a2g.1 a4 i.toNat (by omega)
  rwa [z1b h0] at this
 have hob:=c37 a4
 have hrw:(a1b E M M.length && (((u7 M M.length).length:Int) == a24 E E.length))=true:=by rw[b6l hob]; exact a6
 simp only[z0d] at hrw
 have hrg:=a4q.1 hrw.1
 refine⟨a1,fun i h0 h1=>?_,fun i h0 h1=>?_,hob,fun i h0 h1 hw=>?_,fun o ho=>?_⟩
 ·have h:=hev i h0 h1
  simp only[a6d,z0d] at h
  exact h.1.1.1.1.1
 ·have:=a2g.1 a5 i.toNat (by omega)
  rwa [z1b h0] at this
 ·have ho:=hob i h0 h1 hw
  have h:=a2g.1 a6 (evA E i).ob.toNat (by omega)
  rw[z1b ho.1] at h
  exact(a7u.1 h).1 i (a4o.2 ⟨h0,h1,a26.2 ⟨hw,rfl⟩⟩)
 ·obtain⟨h1,h2⟩:=a23.1 (hrg o ho)
  exact⟨h2,fun x hx=>⟨(h1 x hx).1,(h1 x hx).2.2.1,(h1 x hx).2.2.2⟩⟩
section
variable {E:List Ev} {R:List Int} {M:List (List Int)}
theorem c7w {f:Int→Option Int} {l:List Int} {x:Int}:∀ {q:Nat},(∀ j,j < q→b6 0 l j≠x)→a4f f l q x=f x:=by
 intro q
 induction q with
 | zero=>intro _; rfl
 | succ q ih =>
  intro h
  have h1:(x == b6 0 l q)=false:=by simpa using fun e=>h q (by omega) e.symm
  simp only[a4f,h1,z0l]
  exact ih fun j hj=>h j (by omega)
theorem d07 {f:Int→Option Int} {l:List Int} {x:Int} {j:Nat} (hx:b6 0 l j=x):∀ {q:Nat},j < q→(∀ i,j < i→i < q→b6 0 l i≠x)→a4f f l q x=some (j:Int):=by
 intro q
 induction q with
 | zero=>intro h; omega
 | succ q ih =>
  intro h hn
  by_cases e:j=q
  ·subst e
   have h1:(x == b6 0 l j)=true:=by rw[hx]; simp
   simp only[a4f,h1,z0g]
  ·have h1:(x == b6 0 l q)=false:=by simpa using fun e=>hn q (by omega) (by omega) e.symm
   simp only[a4f,h1,z0l]
   exact ih (by omega) fun i h1 h2=>hn i h1 (by omega)
theorem c2y {l:List Int} (h:l.Nodup) {i j:Nat} (hi:i < l.length) (hj:j < l.length) (e:b6 0 l i=b6 0 l j):i=j:=by
 rw[s4 0 l i hi,s4 0 l j hj] at e
 have hp:=List.pairwise_iff_getElem.1 h
 rcases Nat.lt_trichotomy i j with hl | hl | hl
 ·exact absurd e (hp i j hi hj hl)
 ·exact hl
 ·exact absurd e.symm (hp j i hj hi hl)
theorem c9r {l:List Int} {x:Int} (h:x∈l):∃ j,j < l.length∧b6 0 l j=x:=by
 obtain⟨j,hj,e⟩:=List.mem_iff_getElem.1 h
 exact⟨j,hj,by rw[s4 0 l j hj]; exact e⟩
theorem c5r {l:List Int} {j:Nat} (hj:j < l.length):b6 0 l j∈l:=by rw[s4 0 l j hj]; exact z2f hj
theorem c9j (h:VG E R M) {x:Int} (h0:0≤x) (h1:x < E.length) (hw:wrE (evA E x)=true):∀ m:Nat,(evA E x).ob < (m:Int)→m≤M.length→a8i M m x=some (a4v (w9 M (evA E x).ob) x):=by
 have ho:=h.ob x h0 h1 hw
 intro m
 induction m with
 | zero=>intro h; omega
 | succ m ih =>
  intro hm hl
  by_cases e:(evA E x).ob=(m:Int)
  ·obtain⟨j,hj,hx⟩:=c9r (h.mem x h0 h1 hw)
   have hd:=(h.row m (by omega)).1
   rw[e] at hj hx ⊢
   rw[b2t (fun q hq e=>by have:=c2y hd (by omega) hj (e.trans hx.symm); omega) hj hx]
   exact d07 hx hj fun i h1 h2 e=>by have:=c2y hd h2 hj (e.trans hx.symm); omega
  ·have:a8i M (m + 1) x=a8i M m x:=c7w fun j hj e'=>by
    have:=((h.row m (by omega)).2 _ (c5r hj)).2.2
    rw[e'] at this
    exact e this
   rw[this]
   exact ih (by omega) (by omega)
theorem c6u (h:VG E R M) {x:Int} (h0:0≤x) (h1:x < E.length) (hw:wrE (evA E x)=true):a1g (plM M x)=a4v (w9 M (evA E x).ob) x:=by
 rw[plM,c9j h h0 h1 hw _ (h.ob x h0 h1 hw).2 (z0q _)]
 rfl
def onG (E:List Ev) (f g:Pf):Prop:=∀ i k:Int,0≤i→i < E.length→0≤k→k < E.length→f i k=g i k
theorem d3k (h:VG E R M):onG E (i6 E R M) (moG E R M):=fun i k hi0 hi hk0 hk=>by
 unfold i6 moG moB
 cases wi:wrE (evA E i)
 ·simp
 cases wk:wrE (evA E k)
 ·simp
 rw[c6u h hi0 hi wi,c6u h hk0 hk wk]
 by_cases e:(evA E i).ob=(evA E k).ob
 ·rw[e]
 ·have:((evA E i).ob == (evA E k).ob)=false:=by simpa using e
  simp[this]
theorem b49 (h:VG E R M) {i:Int} (h0:0≤i) (h1:i < E.length) (hr:rdE (evA E i)=true):inA R i = -1∨((0≤inA R i∧inA R i < E.length)∧wrE (evA E (inA R i))=true∧(evA E (inA R i)).ob=(evA E i).ob):=by
 have h:=h.src i h0 h1
 unfold a18 at h
 rw[hr] at h
 by_cases hb:inA R i < 0∨inA R i ≥ E.length
 ·have e:(decide (inA R i < 0) || decide (inA R i ≥ E.length))=true:=by simpa using hb
  simp only[z3e,z0l,e,z0g,beq_iff_eq] at h
  exact .inl h
 ·have e:(decide (inA R i < 0) || decide (inA R i ≥ E.length))=false:=by simp only[z1o,z1g]; omega
  simp only[z3e,z0l,e,z0d,beq_iff_eq] at h
  exact .inr ⟨by omega,h.1.2,h.2⟩
theorem b9s (h:VG E R M) {i:Int} (h0:0≤i) (h1:i < E.length) (hr:rdE (evA E i)=false):inA R i = -2:=by
 have h:=h.src i h0 h1
 unfold a18 at h
 rw[hr] at h
 simpa using h
theorem d3r (h:VG E R M):onG E (g8 E R M) (frG E R M):=fun i k hi0 hi hk0 hk=>by
 unfold g8 frG
 cases ri:rdE (evA E i)
 ·simp
 cases wk:wrE (evA E k)
 ·simp
 by_cases e:(evA E i).ob=(evA E k).ob
 ·have he:((evA E i).ob == (evA E k).ob)=true:=by simpa using e
  rw[he]
  cases hik:(!(i == k))
  ·simp
  simp only[z1v,z1l]
  rcases b49 h hi0 hi ri with hs | ⟨hb,ws,os⟩
  ·rw[hs]; rfl
  ·rw[← d3k h _ _ hb.1 hb.2 hk0 hk]
   have h1:decide (inA R i < 0)=false:=by simp only[z1g]; omega
   have h2:(inA R i == -1)=false:=by simp only[beq_eq_false_iff_ne,ne_eq]; omega
   have h3:((evA E (inA R i)).ob == (evA E k).ob)=true:=by rw[os]; exact he
   simp only[i6,h1,h2,h3,ws,wk,z1l,Bool.false_or]
 ·have:((evA E i).ob == (evA E k).ob)=false:=by simpa using e
  simp[this]
theorem c7r {e:Ev} (h:q7 e=true):a71 e=a97 e:=by
 simp only[q7,z0d] at h
 have h:=h.2
 unfold a71 a97
 cases h1:(e.k == 9 || e.k == 10 || e.k == 11)
 ·simp only[z0l]
  cases h2:(e.k == 12)
  ·rw[h2] at h
   simp only[z0l,beq_iff_eq] at h
   simp only[z0l,h]
  ·rfl
 ·rfl
theorem d8k (h:VG E R M):onG E (f8 E R M) (syG E R M):=fun i k hi0 hi hk0 hk=>by
 unfold f8 syG a9j c8l
 rw[c7r (h.ev i hi0 hi),c7r (h.ev k hk0 hk)]
theorem a67 (x:Int):∀ s,atF R x (s + 1)=atF R (inA R x) s:=by
 intro s
 induction s with
 | zero=>rfl
 | succ s ih=>simp only[atF] at ih ⊢; rw[ih]
theorem c8c {i:Int} (hi:0≤i):∀ {f:Nat} {x:Int},a47 E R i f x=true↔∃ j,j < f∧atF R x j=i∧(∀ l,l≤j→0≤atF R x l)∧∀ l,l < j→atF R x l≠i∧(evA E (atF R x l)).k=5:=by
 intro f
 induction f with
 | zero=>intro x; simp[a47]
 | succ f ih =>
  intro x
  unfold a47
  by_cases h0:x < 0
  ·simp only[h0,decide_true,z0g,z2j,false_iff]
   rintro ⟨j,_,_,h,_⟩
   have:=h 0 (by omega)
   simp only[atF] at this
   omega
  ·simp only[h0,decide_false,z0l]
   by_cases h1:x=i
   ·have e:(x == i)=true:=by simpa using h1
    simp only[e,z0g,true_iff]
    exact⟨0,by omega,h1,fun l hl=>by cases(show l=0 by omega); simp only[atF]; omega,fun l hl=>by omega⟩
   ·have e:(x == i)=false:=by simpa using h1
    simp only[e,z0l]
    by_cases h2:(evA E x).k=5
    ·have e2:((evA E x).k == 5)=true:=by simpa using h2
     simp only[e2,z0g,ih]
     constructor
     ·rintro ⟨j,hj,ha,hb,hc⟩
      refine⟨j + 1,by omega,by rw[a67]; exact ha,fun l hl=>?_,fun l hl=>?_⟩
      ·cases l with
       | zero=>simp only[atF]; omega
       | succ l=>rw[a67]; exact hb l (by omega)
      ·cases l with
       | zero=>exact⟨h1,h2⟩
       | succ l=>rw[a67]; exact hc l (by omega)
     ·rintro ⟨j,hj,ha,hb,hc⟩
      cases j with
      | zero=>exact absurd ha h1
      | succ j =>
       rw[a67] at ha
       refine⟨j,by omega,ha,fun l hl=>?_,fun l hl=>?_⟩
       ·have:=hb (l + 1) (by omega); rwa [a67] at this
       ·have:=hc (l + 1) (by omega); rwa [a67] at this
    ·have e2:((evA E x).k == 5)=false:=by simpa using h2
     simp only[e2,z0l,z2j,false_iff]
     rintro ⟨j,hj,ha,hb,hc⟩
     cases j with
     | zero=>exact h1 ha
     | succ j=>exact h2 (hc 0 (by omega)).2
theorem c36 (x:Int) (a:Nat):∀ s,atF R x (a + s)=atF R (atF R x a) s:=by
 intro s
 induction s with
 | zero=>rfl
 | succ s ih=>show inA R (atF R x (a + s))=_; rw[ih]; rfl
theorem d6w {x:Int} {j:Nat}:∀ {f s:Nat},(∀ l,s≤l→l≤j→a4t R x l=false)→s≤j→j < s + f→j < chS R x f s:=by
 intro f
 induction f with
 | zero=>intro s _ h1 h2; omega
 | succ f ih =>
  intro s h h1 h2
  rw[a7a (h s (z0q _) h1)]
  by_cases e:j=s
  ·have:=d4y R x f (s + 1); omega
  ·exact ih (fun l h3 h4=>h l (by omega) h4) (by omega) (by omega)
theorem d3t (h:VG E R M) (hR:b1l E R):onG E (p8 E R M) (swG E R M):=fun i k hi0 hi hk0 hk=>by
 rw[z2x]
 simp only[p8,a52,c2b,c2r,swG,z0d,beq_iff_eq,c8c hi0]
 constructor
 ·rintro ⟨k',hk',hr,ho,j,hj,hp,ho2⟩
  simp only[z0f] at hp
  obtain⟨rfl,rfl⟩:=hp
  have hrg:∀ l,l≤j→0≤atF R (inA R k') l∧atF R (inA R k') l < E.length:=fun l hl=>c01 hR ⟨hk0,hk⟩ (Nat.lt_of_le_of_lt hl hj)
  have hw:∀ l,l≤j→wrE (evA E (atF R (inA R k') l))=true:=fun l hl=>by
   cases l with
   | zero =>
    rcases b49 h hk0 hk hr with hs | ⟨_,ws,_⟩
    ·have:=(hrg 0 (by omega)).1
     simp only[atF] at this
     omega
    ·exact ws
   | succ l =>
    have hl2:=hrg l (by omega)
    have hl3:=hrg (l + 1) hl
    simp only[atF] at hl3 ⊢
    cases hrd:rdE (evA E (atF R (inA R k') l))
    ·have:=b9s h hl2.1 hl2.2 hrd
     omega
    ·rcases b49 h hl2.1 hl2.2 hrd with hs | ⟨_,ws,_⟩
     ·omega
     ·exact ws
  have hk5:∀ l,l < j→(evA E (atF R (inA R k') l)).k=5:=fun l hl=>by
   have hl2:=hrg l (by omega)
   have hl3:=hrg (l + 1) (by omega)
   simp only[atF] at hl3
   cases hrd:rdE (evA E (atF R (inA R k') l))
   ·have:=b9s h hl2.1 hl2.2 hrd
    omega
   ·have h1:=hw l (by omega)
    simp only[wrE,z1r,beq_iff_eq] at h1
    simp only[rdE,a05,z1r,beq_iff_eq] at hrd
    omega
  have hvis:∀ l,l < j→atF R (inA R k') l≠atF R (inA R k') j:=fun l hl e=>by
   have:=b3t (z2l j) hj
   simp only[a4t,z1o] at this
   have h2:=this.2
   have:atF R (inA R k') j∈a2k R (inA R k') j:=b2z.2 ⟨l,hl,e.symm⟩
   rw[List.contains_iff_mem.2 this] at h2
   cases h2
  have hle:=c64 R (inA R k') (E.length + 1) 0
  exact⟨⟨⟨⟨hw j (z0q _),ho2⟩,hr⟩,ho⟩,j,by omega,rfl,fun l hl=>(hrg l hl).1,fun l hl=>⟨hvis l hl,hk5 l hl⟩⟩
 ·rintro ⟨⟨⟨⟨hw,ho2⟩,hr⟩,ho⟩,j,hj,ha,hb,hc⟩
  refine⟨k.toNat,by omega,by rwa [z1b hk0],by rwa [z1b hk0],j,?_,by rw[z1b hk0,ha],by rw[z1b hk0,ha]; exact ho2⟩
  rw[z1b hk0]
  refine d6w (fun l _ hl=>?_) (z2l _) (by omega)
  simp only[a4t,z1o,z1g]
  refine⟨by have:=hb l hl; omega,?_⟩
  cases hcn:(a2k R (inA R k) l).contains (atF R (inA R k) l)
  ·rfl
  ·exfalso
   obtain⟨p,hp,e⟩:=b2z.1 (List.contains_iff_mem.1 hcn)
   have e2:atF R (inA R k) (p + (j - l))=i:=by
    rw[c36,← e,← c36,show l + (j - l)=j by omega,ha]
   exact(hc (p + (j - l)) (by omega)).1 e2
theorem d81:d9 ⟨#[102]⟩ E R M=frG E R M:=rfl
theorem d8w:d9 ⟨#[119]⟩ E R M=swG E R M:=rfl
theorem d1m:d9 ⟨#[112,115,119]⟩ E R M=fun i k=>poG E R M i k || syG E R M i k || swG E R M i k:=rfl
theorem d23:d9 ⟨#[114,109,102]⟩ E R M=fun i k=>rfG E R M i k || moG E R M i k || frG E R M i k:=rfl
theorem c73 {f g:Pf} (h:onG E f g):b7 E.length f=b7 E.length g:=a73 fun a b ha hb=>h a b (by omega) ha (by omega) hb
theorem c8u {a b c a' b' c':Pf} (ha:onG E a a') (hb:onG E b b') (hc:onG E c c'):a38 E.length a b c=a46 E.length (fun i k=>a' i k || b' i k || c' i k):=by
 have:d5 (b7 E.length a ++ b7 E.length b ++ b7 E.length c)=d5 (b7 E.length (fun i k=>a' i k || b' i k || c' i k)):=by
  funext i k
  rw[z2x,b2x,b2x]
  simp only[z1r,a7t]
  constructor
  ·rintro ((⟨h1,h2,h3,h4,h5⟩ | ⟨h1,h2,h3,h4,h5⟩) | ⟨h1,h2,h3,h4,h5⟩)
   ·exact⟨h1,h2,h3,h4,.inl (.inl (by rw[← ha i k h1 h2 h3 h4]; exact h5))⟩
   ·exact⟨h1,h2,h3,h4,.inl (.inr (by rw[← hb i k h1 h2 h3 h4]; exact h5))⟩
   ·exact⟨h1,h2,h3,h4,.inr (by rw[← hc i k h1 h2 h3 h4]; exact h5)⟩
  ·rintro ⟨h1,h2,h3,h4,h5⟩
   rw[← ha i k h1 h2 h3 h4,← hb i k h1 h2 h3 h4,← hc i k h1 h2 h3 h4] at h5
   rcases h5 with(h5 | h5) | h5
   ·exact .inl (.inl ⟨h1,h2,h3,h4,h5⟩)
   ·exact .inl (.inr ⟨h1,h2,h3,h4,h5⟩)
   ·exact .inr ⟨h1,h2,h3,h4,h5⟩
 rw[a38,a46,this]
end
section
variable {E:List Ev} {R:List Int} {M:List (List Int)}
theorem b7a {v:Bool} {l m:List Pq} (h:v=true→l=m):i4 v l=i4 v m:=by
 cases v
 ·rfl
 ·rw[h rfl]
theorem d8r:vL E R M (d9 ⟨#[102]⟩)=vL E R M g8:=by unfold vL; rw[d81]; exact b7a fun hv=>(c73 (d3r (vg hv))).symm
theorem d7f (hs:SzG E M):vL E R M (d9 ⟨#[119]⟩)=vL E R M p8:=by unfold vL; rw[d8w]; exact b7a fun hv=>(c73 (d3t (vg hv) (a02 hv hs).1.2.1)).symm
theorem d9c (hs:SzG E M):vC E R M (d9 ⟨#[112,115,119]⟩)=vC1 E R M poG f8 p8:=by
 unfold vC vC1
 rw[d1m]
 exact b7a fun hv=>(c8u (fun _ _ _ _ _ _=>rfl) (d8k (vg hv)) (d3t (vg hv) (a02 hv hs).1.2.1)).symm
theorem d94:vC E R M (d9 ⟨#[114,109,102]⟩)=vC1 E R M rfG i6 g8:=by
 unfold vC vC1
 rw[d23]
 exact b7a fun hv=>(c8u (fun _ _ _ _ _ _=>rfl) (d3k (vg hv)) (d3r (vg hv))).symm
theorem c4j (l:List Pq):∀ j,b04 l l j=true:=by
 intro j
 induction j with
 | zero=>rfl
 | succ j ih=>simp[b04,ih]
theorem a7s (N:Int) (l:List Pq):y6 N l N l=true:=by simp[y6,c4j]
theorem d3h (f:GF):(vL E R M f).length≤1099511627776:=by
 unfold vL
 cases hv:b8 E R M
 ·simp[i4]
 ·exact b2h _ (vg hv).n
theorem c8r (a b c:GF):(vC1 E R M a b c).length≤1099511627776:=by
 unfold vC1
 cases hv:b8 E R M
 ·simp[i4]
 ·exact b2h _ (vg hv).n
end
def szG (E:List Ev) (M:List (List Int)):Prop:=E.length≤(1099511627776:Nat)∧(M.length≤(8:Nat)→∀(r:List Int),List.Mem r M→r.length≤(1099511627776:Nat))
def q3D (E:List Ev) (R:List Int) (M:List (List Int)):Prop:=n7 (({ g:=true,calls:=[kFew (nm3 E R M),kAwk (nm3 E R M),a8x 11 (a1a g8) (nm3 E R M),kRl 12 (a1a (d9 ⟨#[102]⟩)) (nm3 E R M),a8x 13 (a1a p8) (nm3 E R M),kRl 14 (a1a (d9 ⟨#[119]⟩)) (nm3 E R M),a8x 15 (a5k poG f8 p8) (nm3 E R M),kRl 16 (b1b (d9 ⟨#[112,115,119]⟩)) (nm3 E R M),a8x 17 (a5k rfG i6 g8) (nm3 E R M),kRl 18 (b1b (d9 ⟨#[114,109,102]⟩)) (nm3 E R M),kAgr (nm3 E R M)] }:Kit)).tab Tryz.f3 [b1x E R M] (grT E R M) (j9 .tt)
theorem d7u (E:List Ev) (R:List Int) (M:List (List Int)):q3D E R M=(E.length=E.length∧R.length=R.length∧M.length=M.length∧nE E∧nI R∧nR M∧((E.length≤(17592186044416:Nat)∧R.length≤(17592186044416:Nat)∧M.length≤(17592186044416:Nat))∧∀(r:List Int),List.Mem r M→r.length≤(17592186044416:Nat))∧((!c4b E R M (300:Int))=true→some tbl=some tbl∧true=true)∧((!c4b E R M (300:Int))=false→some tbl=some tbl∧E.length=E.length∧R.length=R.length∧M.length=M.length∧nE E∧nI R∧nR M∧(szG E M)∧i4 (b8 E R M) (b7 (↑E.length:Int) (g8 E R M))=vL E R M g8∧E.length=E.length∧R.length=R.length∧M.length=M.length∧nE E∧nI R∧nR M∧(szG E M)∧i4 (b8 E R M) (b7 (↑E.length:Int) (d9 (ByteArray.mk #[(102:UInt8)]) E R M))=vL E R M (d9 (ByteArray.mk #[(102:UInt8)]))∧some (l4 [] (l4 [] tbl))=some tbl∧E.length=E.length∧R.length=R.length∧M.length=M.length∧nE E∧nI R∧nR M∧(szG E M)∧i4 (b8 E R M) (b7 (↑E.length:Int) (p8 E R M))=vL E R M p8∧E.length=E.length∧R.length=R.length∧M.length=M.length∧nE E∧nI R∧nR M∧(szG E M)∧i4 (b8 E R M) (b7 (↑E.length:Int) (d9 (ByteArray.mk #[(119:UInt8)]) E R M))=vL E R M (d9 (ByteArray.mk #[(119:UInt8)]))∧some (l4 [] (l4 [] (l4 [] (l4 [] tbl))))=some tbl∧E.length=E.length∧R.length=R.length∧M.length=M.length∧nE E∧nI R∧nR M∧(szG E M)∧i4 (b8 E R M) (a38 E.length (poG E R M) (f8 E
 R M) (p8 E R M))=vC1 E R M poG f8 p8∧E.length=E.length∧R.length=R.length∧M.length=M.length∧nE E∧nI R∧nR M∧(szG E M)∧i4 (b8 E R M) (a46 E.length (d9 (ByteArray.mk #[(112:UInt8),(115:UInt8),(119:UInt8)]) E R M))=vC E R M (d9 (ByteArray.mk #[(112:UInt8),(115:UInt8),(119:UInt8)]))∧some (l4 [] (l4 [] (l4 [] (l4 [] (l4 [] (l4 [] tbl))))))=some tbl∧E.length=E.length∧R.length=R.length∧M.length=M.length∧nE E∧nI R∧nR M∧(szG E M)∧i4 (b8 E R M) (a38 E.length (rfG E R M) (i6 E R M) (g8 E R M))=vC1 E R M rfG i6 g8∧E.length=E.length∧R.length=R.length∧M.length=M.length∧nE E∧nI R∧nR M∧(szG E M)∧i4 (b8 E R M) (a46 E.length (d9 (ByteArray.mk #[(114:UInt8),(109:UInt8),(102:UInt8)]) E R M))=vC E R M (d9 (ByteArray.mk #[(114:UInt8),(109:UInt8),(102:UInt8)]))∧some (l4 [] (l4 [] (l4 [] (l4 [] (l4 [] (l4 [] (l4 [] (l4 [] tbl))))))))=some tbl∧(true=true→(AV.ps (vL E R M g8)).len=(AV.ps (vL E R M g8)).len)∧(true=true→mkN (fun(j:Nat)=>((b6 ((0:Int),(0:Int)) (vL E R M g8) j).fst,(b6 ((0:Int),(0:Int)) (vL E R M g8) j).snd)) (AV.ps (vL E R M g8)).len=vL E R M g8)∧(true=true→(AV.ps (vL E R M (d9 (ByteArray.mk #[(102:UInt8)])))).len=(AV.ps (vL E R M (d9 (ByteArray.mk #[(102:UInt8)])))).len)∧(true=true→mkN (fun(j:Nat)=>((b6 ((0:Int),
 (0:Int)) (vL E R M (d9 (ByteArray.mk #[(102:UInt8)]))) j).fst,(b6 ((0:Int),(0:Int)) (vL E R M (d9 (ByteArray.mk #[(102:UInt8)]))) j).snd)) (AV.ps (vL E R M (d9 (ByteArray.mk #[(102:UInt8)])))).len=vL E R M (d9 (ByteArray.mk #[(102:UInt8)])))∧(true=true→(vL E R M g8).length≤(1099511627776:Nat))∧((true && (y6 (vN E R M) (vL E R M g8) (vN E R M) (vL E R M (d9 (ByteArray.mk #[(102:UInt8)]))) && vE E R M == vE E R M))=true→(AV.ps (vL E R M p8)).len=(AV.ps (vL E R M p8)).len)∧((true && (y6 (vN E R M) (vL E R M g8) (vN E R M) (vL E R M (d9 (ByteArray.mk #[(102:UInt8)]))) && vE E R M == vE E R M))=true→mkN (fun(j:Nat)=>((b6 ((0:Int),(0:Int)) (vL E R M p8) j).fst,(b6 ((0:Int),(0:Int)) (vL E R M p8) j).snd)) (AV.ps (vL E R M p8)).len=vL E R M p8)∧((true && (y6 (vN E R M) (vL E R M g8) (vN E R M) (vL E R M (d9 (ByteArray.mk #[(102:UInt8)]))) && vE E R M == vE E R M))=true→(AV.ps (vL E R M (d9 (ByteArray.mk #[(119:UInt8)])))).len=(AV.ps (vL E R M (d9 (ByteArray.mk #[(119:UInt8)])))).len)∧((true && (y6 (vN E R M) (vL E R M g8) (vN E R M) (vL E R M (d9 (ByteArray.mk #[(102:UInt8)]))) && vE E R M == vE E R M))=true→mkN (fun(j:Nat)=>((b6 ((0:Int),(0:Int)) (vL E R M (d9 (ByteArray.mk #[(119:UInt8)]))) j).fst,(b6 ((0:Int),(0:Int)) (vL E R M (d9 (ByteArray.mk #[(119:UInt8)]))) j).snd)) (AV.ps (vL E R M (d9 (ByteArray.mk
 #[(119:UInt8)])))).len=vL E R M (d9 (ByteArray.mk #[(119:UInt8)])))∧((true && (y6 (vN E R M) (vL E R M g8) (vN E R M) (vL E R M (d9 (ByteArray.mk #[(102:UInt8)]))) && vE E R M == vE E R M))=true→(vL E R M p8).length≤(1099511627776:Nat))∧((true && (y6 (vN E R M) (vL E R M g8) (vN E R M) (vL E R M (d9 (ByteArray.mk #[(102:UInt8)]))) && vE E R M == vE E R M) && (y6 (vN E R M) (vL E R M p8) (vN E R M) (vL E R M (d9 (ByteArray.mk #[(119:UInt8)]))) && vE E R M == vE E R M))=true→(AV.ps (vC1 E R M poG f8 p8)).len=(AV.ps (vC1 E R M poG f8 p8)).len)∧((true && (y6 (vN E R M) (vL E R M g8) (vN E R M) (vL E R M (d9 (ByteArray.mk #[(102:UInt8)]))) && vE E R M == vE E R M) && (y6 (vN E R M) (vL E R M p8) (vN E R M) (vL E R M (d9 (ByteArray.mk #[(119:UInt8)]))) && vE E R M == vE E R M))=true→mkN (fun(j:Nat)=>((b6 ((0:Int),(0:Int)) (vC1 E R M poG f8 p8) j).fst,(b6 ((0:Int),(0:Int)) (vC1 E R M poG f8 p8) j).snd)) (AV.ps (vC1 E R M poG f8 p8)).len=vC1 E R M poG f8 p8)∧((true && (y6 (vN E R M) (vL E R M g8) (vN E R M) (vL E R M (d9 (ByteArray.mk #[(102:UInt8)]))) && vE E R M == vE E R M) && (y6 (vN E R M) (vL E R M p8) (vN E R M) (vL E R M (d9 (ByteArray.mk #[(119:UInt8)]))) && vE E R M == vE E R M))=true→(AV.ps (vC E R M (d9 (ByteArray.mk #[(112:UInt8),(115:UInt8),(119:UInt8)])))).len=(AV.ps (vC E R M (d9 (ByteArray.mk #[(112:UInt8),
 (115:UInt8),(119:UInt8)])))).len)∧((true && (y6 (vN E R M) (vL E R M g8) (vN E R M) (vL E R M (d9 (ByteArray.mk #[(102:UInt8)]))) && vE E R M == vE E R M) && (y6 (vN E R M) (vL E R M p8) (vN E R M) (vL E R M (d9 (ByteArray.mk #[(119:UInt8)]))) && vE E R M == vE E R M))=true→mkN (fun(j:Nat)=>((b6 ((0:Int),(0:Int)) (vC E R M (d9 (ByteArray.mk #[(112:UInt8),(115:UInt8),(119:UInt8)]))) j).fst,(b6 ((0:Int),(0:Int)) (vC E R M (d9 (ByteArray.mk #[(112:UInt8),(115:UInt8),(119:UInt8)]))) j).snd)) (AV.ps (vC E R M (d9 (ByteArray.mk #[(112:UInt8),(115:UInt8),(119:UInt8)])))).len=vC E R M (d9 (ByteArray.mk #[(112:UInt8),(115:UInt8),(119:UInt8)])))∧((true && (y6 (vN E R M) (vL E R M g8) (vN E R M) (vL E R M (d9 (ByteArray.mk #[(102:UInt8)]))) && vE E R M == vE E R M) && (y6 (vN E R M) (vL E R M p8) (vN E R M) (vL E R M (d9 (ByteArray.mk #[(119:UInt8)]))) && vE E R M == vE E R M))=true→(vC1 E R M poG f8 p8).length≤(1099511627776:Nat))∧((true && (y6 (vN E R M) (vL E R M g8) (vN E R M) (vL E R M (d9 (ByteArray.mk #[(102:UInt8)]))) && vE E R M == vE E R M) && (y6 (vN E R M) (vL E R M p8) (vN E R M) (vL E R M (d9 (ByteArray.mk #[(119:UInt8)]))) && vE E R M == vE E R M) && (y6 (vN E R M) (vC1 E R M poG f8 p8) (vN E R M) (vC E R M (d9 (ByteArray.mk #[(112:UInt8),(115:UInt8),(119:UInt8)]))) && vE E R M == vE E R M))=true→(AV.ps (vC1 E R M
 rfG i6 g8)).len=(AV.ps (vC1 E R M rfG i6 g8)).len)∧((true && (y6 (vN E R M) (vL E R M g8) (vN E R M) (vL E R M (d9 (ByteArray.mk #[(102:UInt8)]))) && vE E R M == vE E R M) && (y6 (vN E R M) (vL E R M p8) (vN E R M) (vL E R M (d9 (ByteArray.mk #[(119:UInt8)]))) && vE E R M == vE E R M) && (y6 (vN E R M) (vC1 E R M poG f8 p8) (vN E R M) (vC E R M (d9 (ByteArray.mk #[(112:UInt8),(115:UInt8),(119:UInt8)]))) && vE E R M == vE E R M))=true→mkN (fun(j:Nat)=>((b6 ((0:Int),(0:Int)) (vC1 E R M rfG i6 g8) j).fst,(b6 ((0:Int),(0:Int)) (vC1 E R M rfG i6 g8) j).snd)) (AV.ps (vC1 E R M rfG i6 g8)).len=vC1 E R M rfG i6 g8)∧((true && (y6 (vN E R M) (vL E R M g8) (vN E R M) (vL E R M (d9 (ByteArray.mk #[(102:UInt8)]))) && vE E R M == vE E R M) && (y6 (vN E R M) (vL E R M p8) (vN E R M) (vL E R M (d9 (ByteArray.mk #[(119:UInt8)]))) && vE E R M == vE E R M) && (y6 (vN E R M) (vC1 E R M poG f8 p8) (vN E R M) (vC E R M (d9 (ByteArray.mk #[(112:UInt8),(115:UInt8),(119:UInt8)]))) && vE E R M == vE E R M))=true→(AV.ps (vC E R M (d9 (ByteArray.mk #[(114:UInt8),(109:UInt8),(102:UInt8)])))).len=(AV.ps (vC E R M (d9 (ByteArray.mk #[(114:UInt8),(109:UInt8),(102:UInt8)])))).len)∧((true && (y6 (vN E R M) (vL E R M g8) (vN E R M) (vL E R M (d9 (ByteArray.mk #[(102:UInt8)]))) && vE E R M == vE E R M) && (y6 (vN E R M) (vL E R M p8) (vN E R M) (vL E R
 M (d9 (ByteArray.mk #[(119:UInt8)]))) && vE E R M == vE E R M) && (y6 (vN E R M) (vC1 E R M poG f8 p8) (vN E R M) (vC E R M (d9 (ByteArray.mk #[(112:UInt8),(115:UInt8),(119:UInt8)]))) && vE E R M == vE E R M))=true→mkN (fun(j:Nat)=>((b6 ((0:Int),(0:Int)) (vC E R M (d9 (ByteArray.mk #[(114:UInt8),(109:UInt8),(102:UInt8)]))) j).fst,(b6 ((0:Int),(0:Int)) (vC E R M (d9 (ByteArray.mk #[(114:UInt8),(109:UInt8),(102:UInt8)]))) j).snd)) (AV.ps (vC E R M (d9 (ByteArray.mk #[(114:UInt8),(109:UInt8),(102:UInt8)])))).len=vC E R M (d9 (ByteArray.mk #[(114:UInt8),(109:UInt8),(102:UInt8)])))∧((true && (y6 (vN E R M) (vL E R M g8) (vN E R M) (vL E R M (d9 (ByteArray.mk #[(102:UInt8)]))) && vE E R M == vE E R M) && (y6 (vN E R M) (vL E R M p8) (vN E R M) (vL E R M (d9 (ByteArray.mk #[(119:UInt8)]))) && vE E R M == vE E R M) && (y6 (vN E R M) (vC1 E R M poG f8 p8) (vN E R M) (vC E R M (d9 (ByteArray.mk #[(112:UInt8),(115:UInt8),(119:UInt8)]))) && vE E R M == vE E R M))=true→(vC1 E R M rfG i6 g8).length≤(1099511627776:Nat))∧(true && (y6 (vN E R M) (vL E R M g8) (vN E R M) (vL E R M (d9 (ByteArray.mk #[(102:UInt8)]))) && vE E R M == vE E R M) && (y6 (vN E R M) (vL E R M p8) (vN E R M) (vL E R M (d9 (ByteArray.mk #[(119:UInt8)]))) && vE E R M == vE E R M) && (y6 (vN E R M) (vC1 E R M poG f8 p8) (vN E R M) (vC E R M (d9 (ByteArray.mk #[(112
 : UInt8),(115:UInt8),(119:UInt8)]))) && vE E R M == vE E R M) && (y6 (vN E R M) (vC1 E R M rfG i6 g8) (vN E R M) (vC E R M (d9 (ByteArray.mk #[(114:UInt8),(109:UInt8),(102:UInt8)]))) && vE E R M == vE E R M))=true)):=by kernel_rfl
theorem v3 (E:List Ev) (R:List Int) (M:List (List Int)) (h:SzF E R M):q3D E R M:=by
 rw[d7u]
 simp only[eq_self,true_and,and_true,z0n,imp_self,l7,l8,n6,g7,g9,PLoop.of,p9,AV.len,i5,z0s,j4,j7,j6,l9,m4,m5]
 refine⟨⟨h.1,h.2⟩,fun hc=>?_⟩
 have h:SzG E M:=d5b (by simpa using hc)
 have hS:szG E M:=⟨h.1,h.2⟩
 refine⟨hS,rfl,hS,rfl,hS,rfl,hS,rfl,hS,rfl,hS,rfl,hS,rfl,hS,rfl,d3h _,fun _=>d3h _,fun _=>c8r _ _ _,fun _=>c8r _ _ _,?_⟩
 rw[d8r,d7f h,d9c h,d94,a7s,a7s,a7s,a7s]
 simp
end Go.Proofs.YtaeeaniofljmnaaGreatDoor

/-
  A part of the proof (K57).
-/
import Derived.Test.YtaeeaniofljmnaaGreatDoorK2
import Derived.Test.YtaeeaniofljmnaaGreatDoorK14
import Derived.Test.YtaeeaniofljmnaaGreatDoorK51a
import Derived.Test.YtaeeaniofljmnaaGreatDoorWx16
import Derived.Test.YtaeeaniofljmnaaGreatDoorWx14
import Derived.Test.YtaeeaniofljmnaaGreatDoorCards
import Derived.Test.YtaeeaniofljmnaaGreatDoorTie
import Derived.WalkKit
import Derived.ProofKit
import Derived.OpenShut
import Derived.Deep.DeepHandedRow
import Derived.SizedLaws
import Derived.Lib.LaidTab
namespace Go.Proofs.YtaeeaniofljmnaaGreatDoor
set_option linter.unusedSimpArgs false
set_option linter.unusedVariables false
open Go Go.Proofs.YtaeeaniofljmnaaGreatDoor.Sx Go.ChangeShapes Go.WideShapes Go.ChangeAt Go.RowKit
set_option maxRecDepth 100000
theorem c8k:laidOutB Tryz.prog=true:=by kernel_rfl
theorem d2i:ownKnob Tryz.prog.godebug=none:=by kernel_rfl
def a7c (w:World) (a:Addr):Int:=match w.cell? a with
 | some (.int _ n)=>n
 | _=>0
theorem b9n {w:World} {a:Addr} {u:Value} {k:IntKind} (h:w.cell? a=some u) (hk:b9o (some k) u):w.cell? a=some (.int k (a7c w a)):=by
 obtain⟨n,rfl,_⟩:=hk
 simp only[a7c,h]
def a5b (W:World) (E:Nat→Option (Option Addr × Nat)):Env:=⟨E,fun g=>g < W.heap.size,fun g=>g < W.heap.size,fun _ _=>False⟩
section
variable {H:Type} {enc:TypeId × Value→H} {P:Program} {w:World} {base:Nat} {sp:Nat→Bool} {held:Bool}
theorem b52 {f fuel:Nat} {t e:TypeId} {v:Value} {x:DataW H × List MemPlace} {ks:List (Option IntKind)} (ht:P.underlying t=some (.slice e)) (hk:a3s P f e=some ks) (hl:ks.length=P.cellsOf e) (h0:0 < ks.length) (hf:DataW.trod enc P w base sp held fuel t [v]=some x) :
  ∃ A n c,(n=0∨∃ es sp,x.1=.slice es sp∧es.length=n)∧v=.slice A n c∧n≤c∧(0 < n→∃ a,A=some a∧a.block < w.heap.size∧∀ j,j < n→∀(k:Nat) (kd:Option IntKind),ks[k]?=some kd→∃ u,w.cell? (a.add (j * ks.length + k))=some u∧b9o kd u):=by
 rcases DataW.trod_slice ht hf with⟨hz,_⟩ | ⟨a,len,cap,elems,rest,m,_,hz,rfl,_,hle,hmx,hel,hat,_⟩
 ·simp only[z2n,and_true] at hz
  exact⟨none,0,0,.inl rfl,hz,z0r _,fun h=>absurd h (z1q _)⟩
 ·simp only[z2n,and_true] at hz
  refine⟨some a,len,cap,.inr ⟨_,_,rfl,by rw[z2k]; exact hel⟩,hz,hle,fun hn=>?_⟩
  have hcell:∀ j,j < len→∀(k:Nat) (kd:Option IntKind),ks[k]?=some kd→∃ u,w.cell? (a.add (j * ks.length + k))=some u∧b9o kd u:=fun j hj k kd hkk=>by
   have h1:=hat j hj
   rw[z0j (by omega)] at h1
   rw[z3a] at h1
   obtain⟨cs,hcs1,hcs2⟩:=h1
   obtain⟨h2,_⟩:=c05 f m e cs _ _ ks hk (show DataW.trod enc P w base sp held m e cs=some (elems[j].1,elems[j].2) from hcs2)
   obtain⟨u,hu,hku⟩:=c28 h2 k kd hkk
   have hkl:=(z0c.1 hkk).1
   have:=b3x hcs1 k (by omega)
   rw[z9,hu,← hl] at this
   exact⟨u,this,hku⟩
  refine⟨a,rfl,?_,hcell⟩
  obtain⟨u,hu,_⟩:=hcell 0 hn 0 _ (z0j h0)
  have:=World.block_lt_of_cell? w _ hu
  rw[Sx.block_add] at this
  exact this
theorem d6h {a:Addr} {cs:List Value} (h:w.cells? base a 1=some cs):∃ u,cs=[u]∧w.cell? a=some u:=by
 have h1:=b3x h 0 (by omega)
 have h2:cs.length=1:=by
  unfold World.cells? at h
  split at h
  ·have:=(b71 h).1
   simpa using this
  ·cases h
 match cs,h2 with
 | [u],_ =>
  refine⟨u,rfl,?_⟩
  have e:a.add 0=a:=by cases a; simp[Addr.add]
  rw[e] at h1
  exact h1
theorem c6l {fuel:Nat} {t e:TypeId} {v:Value} {x:DataW H × List MemPlace} (ht:P.underlying t=some (.slice e)) (hc:P.cellsOf e=1) (hf:DataW.trod enc P w base sp held fuel t [v]=some x) :
  ∃ A n c,v=.slice A n c∧n≤c∧(n=0∨∃ es sp' a,x.1=.slice es sp'∧es.length=n∧A=some a∧∀ j,j < n→∃ u y m,w.cell? (a.add j)=some u∧DataW.trod enc P w base sp held m e [u]=some y∧es[j]?=some y.1):=by
 rcases DataW.trod_slice ht hf with⟨hz,_⟩ | ⟨a,len,cap,elems,rest,m,_,hz,rfl,_,hle,hmx,hel,hat,_⟩
 ·simp only[z2n,and_true] at hz
  exact⟨none,0,0,hz,z0r _,.inl rfl⟩
 ·simp only[z2n,and_true] at hz
  refine⟨some a,len,cap,hz,hle,.inr ⟨_,_,a,rfl,by rw[z2k]; exact hel,rfl,fun j hj=>?_⟩⟩
  have h1:=hat j hj
  rw[z0j (by omega),hc] at h1
  rw[z3a] at h1
  obtain⟨cs,hcs1,hcs2⟩:=h1
  obtain⟨u,rfl,hu⟩:=d6h hcs1
  rw[Nat.mul_one] at hu
  exact⟨u,elems[j],m,hu,hcs2,by rw[z3n,z0j (by omega)]; rfl⟩
end
def b0x (w:World):Value→List Int
 | .slice (some b) l _=>mkN (fun i=>a7c w (b.add (i * 1 + 0))) l
 | .slice none l _=>mkN (fun _=>0) l
 | _=>[]
theorem a4c {w:World} {A:Option Addr} {l c:Nat}:(b0x w (.slice A l c)).length=l:=by
 cases A <;> simp[b0x,i9]
section
variable {H:Type} {enc:TypeId × Value→H} {w:World} {base:Nat} {sp:Nat→Bool} {held:Bool}
theorem k85:a3s Tryz.prog 5 85=some [some .i64,some .i64,some .i64,some .i64,some .i64,some .i64,some .i64,some .i64,some .i64]:=by kernel_rfl
def evAt (w:World) (a:Addr) (j:Nat):Ev:=⟨a7c w (a.add (j * 9 + 0)),a7c w (a.add (j * 9 + 1)),a7c w (a.add (j * 9 + 2)),a7c w (a.add (j * 9 + 3)),a7c w (a.add (j * 9 + 4)),a7c w (a.add (j * 9 + 5)),a7c w (a.add (j * 9 + 6)),a7c w (a.add (j * 9 + 7)),a7c w (a.add (j * 9 + 8))⟩
theorem c93 {fuel:Nat} {v:Value} {x:DataW H × List MemPlace} (hf:DataW.trod enc Tryz.prog w base sp held fuel 22 [v]=some x) (hw:∀ n∈x.1.weights Tryz.prog 22,n≤reachBytes) :
  ∃(l:List Ev) (y:Option Addr × Nat),l.length≤17592186044416∧∀(E:Nat→Option (Option Addr × Nat)) (i:Nat),E i=some y→BR (a5b w E) w i (.arr l.length (i6 l))∧Den (a5b w E) (.sl i l.length) v:=by
 obtain⟨A,n,c,hwt,rfl,hnc,hc⟩:=b52 (f:=5) (t:=22) (e:=85) (by kernel_rfl) k85 (by kernel_rfl) (by simp) hf
 have hn:n≤17592186044416:=by
  rcases hwt with h | ⟨es,sp,h1,h2⟩
  ·omega
  ·have hs:Tryz.prog.underlying 22=some (.slice 85):=by kernel_rfl
   have hb:Tryz.prog.bytesOf 85=72:=by kernel_rfl
   have:=hw ((es.length + sp.length) * Tryz.prog.bytesOf 85) (by rw[h1]; simp[DataW.weights,hs])
   rw[hb] at this
   have hr:=reachBytes_lt
   omega
 cases A with
 | none =>
  have h0:n=0:=by
   cases n with
   | zero=>rfl
   | succ n=>obtain⟨a,ha,_⟩:=hc (Nat.succ_pos n); cases ha
  subst h0
  exact⟨[],(none,c),by simp,fun E i hE=>⟨⟨none,c,hE,hnc,fun h=>absurd h (z1q _)⟩,.sl hE (fun h=>absurd h (z1q _))⟩⟩
 | some a =>
  refine⟨mkN (evAt w a) n,(some a,c),by rw[i9]; exact hn,fun E i hE=>⟨⟨some a,c,hE,by rw[i9]; exact hnc,fun hn=>?_⟩,by rw[i9]; exact .sl hE (fun _=>by simp)⟩⟩
  rw[i9] at hn
  obtain⟨a',ha,hlt,hcell⟩:=hc hn
  simp only[z0a] at ha
  subst ha
  refine⟨a,rfl,hlt,fun j hj k col hcol=>?_⟩
  rw[i9] at hj
  have hkk:=(z0c.1 hcol).1
  have h9:k < 9:=hkk
  have hk9:([some .i64,some .i64,some .i64,some .i64,some .i64,some .i64,some .i64,some .i64,some .i64]:List (Option IntKind))[k]?=some (some .i64):=by
   match k,h9 with
   | 0,_ | 1,_ | 2,_ | 3,_ | 4,_ | 5,_ | 6,_ | 7,_ | 8,_=>rfl
  obtain⟨u,hu,hk⟩:=hcell j hj k (some .i64) hk9
  refine⟨_,b9n hu hk,?_⟩
  match k,h9,hcol with
  | 0,_,hcol | 1,_,hcol | 2,_,hcol | 3,_,hcol | 4,_,hcol | 5,_,hcol | 6,_,hcol | 7,_,hcol | 8,_,hcol =>
   simp only[i6,z1w,z1l,z0a] at hcol
   subst hcol
   simp only[m5,x7 _ _ hj]
   rfl
theorem c0t {fuel:Nat} {v:Value} {x:DataW H × List MemPlace} (hf:DataW.trod enc Tryz.prog w base sp held fuel 23 [v]=some x) (hw:∀ n∈x.1.weights Tryz.prog 23,n≤reachBytes) :
  ∃ A n c,v=.slice A n c∧n≤c∧n≤17592186044416∧(0 < n→∃ a,A=some a∧a.block < w.heap.size∧∀ i,i < n→w.cell? (a.add (i * 1 + 0))=some (.int .i64 (b7 0 (b0x w v) i))):=by
 obtain⟨A,n,c,hwt,rfl,hnc,hc⟩:=b52 (f:=5) (ks:=[some .i64]) (t:=23) (e:=3) (by kernel_rfl) (by kernel_rfl) (by kernel_rfl) (by simp) hf
 refine⟨A,n,c,rfl,hnc,?_,fun h=>?_⟩
 ·rcases hwt with h | ⟨es,sp,h1,h2⟩
  ·omega
  ·have hs:Tryz.prog.underlying 23=some (.slice 3):=by kernel_rfl
   have hb:Tryz.prog.bytesOf 3=8:=by kernel_rfl
   have:=hw ((es.length + sp.length) * Tryz.prog.bytesOf 3) (by rw[h1]; simp[DataW.weights,hs])
   rw[hb] at this
   have hr:=reachBytes_lt
   omega
 ·obtain⟨a,rfl,hlt,hcell⟩:=hc h
  refine⟨a,rfl,hlt,fun i hi=>?_⟩
  obtain⟨u,hu,hk⟩:=hcell i hi 0 (some .i64) rfl
  have hu':w.cell? (a.add (i * 1 + 0))=some u:=hu
  rw[b9n hu' hk,b0x,x7 _ _ hi]
theorem d2f {fuel:Nat} {v:Value} {x:DataW H × List MemPlace} (hf:DataW.trod enc Tryz.prog w base sp held fuel 23 [v]=some x) (hw:∀ n∈x.1.weights Tryz.prog 23,n≤reachBytes) :
  ∃(l:List Int) (y:Option Addr × Nat),l.length≤17592186044416∧∀(E:Nat→Option (Option Addr × Nat)) (i:Nat),E i=some y→BR (a5b w E) w i (.arr l.length (e8 l))∧Den (a5b w E) (.sl i l.length) v:=by
 obtain⟨A,n,c,rfl,hnc,hn,hc⟩:=c0t hf hw
 refine⟨b0x w (.slice A n c),(A,c),by rw[a4c]; exact hn,fun E i hE=>⟨⟨A,c,hE,by rw[a4c]; exact hnc,fun h0=>?_⟩,by
  rw[a4c]
  exact .sl hE (fun h0=>by obtain⟨a,rfl,_⟩:=hc h0; simp)⟩⟩
 rw[a4c] at h0
 obtain⟨a,rfl,hlt,hcell⟩:=hc h0
 refine⟨a,rfl,hlt,fun j hj k col hcol=>?_⟩
 rw[a4c] at hj
 match k,hcol with
 | 0,hcol =>
  simp[e8] at hcol
  subst hcol
  exact⟨_,hcell j hj,rfl⟩
 | k + 1,hcol=>simp[e8] at hcol
theorem b63 {P:Program} {e:TypeId} {d:DataW H} {k:Nat}:∀ {ds:List (DataW H)} {j:Nat},ds[j]?=some d→k∈d.weights P e→k∈DataW.weightsAll P e ds:=by
 intro ds
 induction ds with
 | nil=>intro j h _; simp at h
 | cons a r ih =>
  intro j h hk
  simp only[DataW.weightsAll,z0n]
  cases j with
  | zero=>simp at h; subst h; exact .inl hk
  | succ j=>exact .inr (ih (by simpa using h) hk)
theorem d2g {fuel:Nat} {v:Value} {x:DataW H × List MemPlace} (hf:DataW.trod enc Tryz.prog w base sp held fuel 24 [v]=some x) (hw:∀ n∈x.1.weights Tryz.prog 24,n≤reachBytes) :
  ∃(M:List (List Int)) (y:Option Addr × Nat),(M.length≤17592186044416∧∀ r∈M,r.length≤17592186044416)∧∀(E:Nat→Option (Option Addr × Nat)) (i:Nat),E i=some y→BR (a5b w E) w i (.arr M.length (i4 M))∧Den (a5b w E) (.sl i M.length) v:=by
 obtain⟨A,n,c,rfl,hnc,hc⟩:=c6l (t:=24) (e:=23) (by kernel_rfl) (by kernel_rfl) hf
 rcases hc with rfl | ⟨es,sp',a,hx,hel,rfl,hc⟩
 ·exact⟨[],(A,c),⟨by simp,fun r h=>by cases h⟩,fun E i hE=>⟨⟨A,c,hE,hnc,fun h=>absurd h (z1q _)⟩,.sl hE (fun h=>absurd h (z1q _))⟩⟩
 ·have hs:Tryz.prog.underlying 24=some (.slice 23):=by kernel_rfl
  have hb:Tryz.prog.bytesOf 23=24:=by kernel_rfl
  have hn:n≤17592186044416:=by
   have:=hw ((es.length + sp'.length) * Tryz.prog.bytesOf 23) (by rw[hx]; simp[DataW.weights,hs])
   rw[hb] at this
   have hr:=reachBytes_lt
   omega
  have hrow:∀ j,j < n→∃ A l c,w.cell? (a.add j)=some (.slice A l c)∧l≤c∧l≤17592186044416∧(0 < l→∃ b,A=some b∧b.block < w.heap.size∧∀ i,i < l→w.cell? (b.add (i * 1 + 0))=some (.int .i64 (b7 0 (b0x w (.slice A l c)) i))):=fun j hj=>by
   obtain⟨u,y,m,hu,hy,hes⟩:=hc j hj
   obtain⟨A,l,c,rfl,h1,h2,h3⟩:=c0t hy fun k hk=>hw k (by
    rw[hx]
    simp only[DataW.weights,hs,z0q,z0n]
    exact .inr (.inl (b63 hes hk)))
   exact⟨A,l,c,hu,h1,h2,h3⟩
  let g:Nat→List Int:=fun j=>match w.cell? (a.add j) with
   | some u=>b0x w u
   | none=>[]
  have hg:∀ {j u},w.cell? (a.add j)=some u→g j=b0x w u:=fun h=>by simp only[g,h]
  refine⟨mkN g n,(some a,c),⟨by rw[i9]; exact hn,fun r hr=>?_⟩,fun E i hE=>⟨⟨some a,c,hE,by rw[i9]; exact hnc,fun h0=>?_⟩,by rw[i9]; exact .sl hE (fun _=>by simp)⟩⟩
  ·obtain⟨j,hj,rfl⟩:=z2s.1 hr
   rw[i9] at hj
   obtain⟨A,l,c,hu,_,h2,_⟩:=hrow j hj
   rw[← m7 [] _ _ (by rw[i9]; exact hj),x7 _ _ hj,hg hu,a4c]
   exact h2
  ·rw[i9] at h0
   obtain⟨A0,l0,c0,hu0,_⟩:=hrow 0 h0
   have hlt:=World.block_lt_of_cell? w _ hu0
   rw[Sx.block_add] at hlt
   refine⟨a,rfl,hlt,fun j hj k col hcol=>?_⟩
   rw[i9] at hj
   match k,hcol with
   | 0,hcol =>
    simp[i4] at hcol
    subst hcol
    obtain⟨A,l,c,hu,h1,_,h3⟩:=hrow j hj
    have e:b7 [] (mkN g n) j=b0x w (.slice A l c):=by rw[x7 _ _ hj,hg hu]
    have el:(b7 [] (mkN g n) j).length=l:=by rw[e,a4c]
    refine⟨.slice A l c,by simpa [i4] using hu,?_⟩
    simp only[m5]
    refine⟨A,c,by rw[el],by rw[el]; exact h1,fun h0=>?_⟩
    rw[el] at h0
    obtain⟨b,rfl,hb,hcell⟩:=h3 h0
    refine⟨b,rfl,⟨hb,hb⟩,fun i hi k f hk=>?_⟩
    rw[el] at hi
    match k,hk with
    | 0,hk =>
     simp at hk
     subst hk
     have:=hcell i hi
     simp only[e]
     simpa using this
    | k + 1,hk=>simp at hk
   | k + 1,hcol=>simp[i4] at hcol
theorem f26:∃ f0 f1 f2,Tryz.prog.underlying 26=some (.struct #[f0,f1,f2])∧(f0.type=22∧f1.type=23∧f2.type=24)∧f0.offset=0∧f1.offset=1∧f2.offset=2:=by
 obtain⟨fs,h⟩:∃ fs,Tryz.prog.underlying 26=some (.struct fs):=by
  have:(match Tryz.prog.underlying 26 with | some (.struct _)=>true | _=>false)=true:=by kernel_rfl
  split at this
  ·exact⟨_,by assumption⟩
  ·cases this
 have hz:(match Tryz.prog.underlying 26 with | some (.struct fs)=>fs.map (fun f=>(f.type,f.offset)) | _=>#[]) = #[(22,0),(23,1),(24,2)]:=by kernel_rfl
 rw[h] at hz
 simp only at hz
 obtain⟨l⟩:=fs
 simp only[List.map_toArray,Array.mk.injEq] at hz
 match l,hz with
 | [f0,f1,f2],hz =>
  simp only[z2e,List.map_nil,z2n,z0g,and_true] at hz
  exact⟨f0,f1,f2,h,⟨hz.1.1,hz.2.1.1,hz.2.2.1⟩,hz.1.2,hz.2.1.2,hz.2.2.2⟩
theorem b53 (k:Nat) {r:Reach} {b0:Nat} {v:Value} {d:DataW H} {p:List MemPlace} (hv:Value.okWide Tryz.prog w r b0 26 v) (h:DataW.Trod enc Tryz.prog w base sp held 26 v d p) (hw:∀ n∈d.weights Tryz.prog 26,n≤reachBytes) :
  ∃(E:List Ev) (R:List Int) (M:List (List Int)) (y0 y1 y2:Option Addr × Nat),SzF E R M∧∀(e:Nat→Option (Option Addr × Nat)),e k=some y0→e (k + 1)=some y1→e (k + 2)=some y2→(BR (a5b w e) w k (.arr E.length (i6 E))∧BR (a5b w e) w (k + 1) (.arr R.length (e8 R))∧BR (a5b w e) w (k + 2) (.arr M.length (i4 M)))∧Den (a5b w e) (.agg [.sl k E.length,.sl (k + 1) R.length,.sl (k + 2) M.length]) v:=by
 obtain⟨f0,f1,f2,ht,⟨e0,e1,e2⟩,o0,o1,o2⟩:=f26
 obtain⟨cs,rfl,hsz⟩:=okWide_struct ht hv
 have h2:Tryz.prog.cellsOf 26=3:=by kernel_rfl
 rw[h2] at hsz
 obtain⟨c0,c1,c2,hcs⟩:∃ c0 c1 c2,cs = #[c0,c1,c2]:=by
  obtain⟨l⟩:=cs
  match l,hsz with
  | [c0,c1,c2],_=>exact⟨c0,c1,c2,rfl⟩
 subst hcs
 obtain⟨fuel,hf⟩:=h
 have hce:(Value.agg #[c0,c1,c2]).cells.toList=[c0,c1,c2]:=by simp[Value.cells]
 rw[hce] at hf
 obtain⟨xs,n,_,hx,_,hxl,hat⟩:=DataW.trod_struct ht hf
 match xs,hxl with
 | [x0,x1,x2],_ =>
  have t0:=hat 0 f0 rfl
  have t1:=hat 1 f1 rfl
  have t2:=hat 2 f2 rfl
  have q22:Tryz.prog.cellsOf 22=1:=by kernel_rfl
  have q23:Tryz.prog.cellsOf 23=1:=by kernel_rfl
  have q24:Tryz.prog.cellsOf 24=1:=by kernel_rfl
  rw[e0,o0,q22] at t0
  rw[e1,o1,q23] at t1
  rw[e2,o2,q24] at t2
  simp only[List.drop_zero,List.drop_succ_cons,List.take_succ_cons,List.take_zero,z1w,z1l] at t0 t1 t2
  have hd:d=.agg [x0.1,x1.1,x2.1]:=congrArg Prod.fst hx
  have hwd:∀ n,n∈x0.1.weights Tryz.prog 22∨n∈x1.1.weights Tryz.prog 23∨n∈x2.1.weights Tryz.prog 24→n≤reachBytes:=fun n hn=>hw n (by
   rw[hd]
   simp only[DataW.weights,ht,DataW.weightsEach,z2e,List.map_nil,e0,e1,e2,z0n,List.not_mem_nil,or_false]
   exact hn)
  obtain⟨E,y0,l0,z0⟩:=c93 t0 fun n hn=>hwd n (.inl hn)
  obtain⟨R,y1,l1,z1⟩:=d2f t1 fun n hn=>hwd n (.inr (.inl hn))
  obtain⟨M,y2,l2,z2⟩:=d2g t2 fun n hn=>hwd n (.inr (.inr hn))
  refine⟨E,R,M,y0,y1,y2,⟨⟨l0,l1,l2.1⟩,l2.2⟩,fun e g0 g1 g2=>⟨⟨(z0 e k g0).1,(z1 e (k + 1) g1).1,(z2 e (k + 2) g2).1⟩,?_⟩⟩
  have:DenL (a5b w e) [.sl k E.length,.sl (k + 1) R.length,.sl (k + 2) M.length] [c0,c1,c2]:=DenL.cons (z0 e k g0).2 (DenL.cons (z1 e (k + 1) g1).2 (DenL.cons (z2 e (k + 2) g2).2 (DenL.nil _)))
  exact .agg this.1 this.2
end
theorem gTab:Tryz.prog.globalNamed "modelcheck/event.rows"=some 0:=by kernel_rfl
theorem c88:(Tryz.prog.globals[0]?).map (·.type)=some 161:=by kernel_rfl
theorem c9a:a3u Tryz.prog 5 161=true:=by kernel_rfl
def d3k:List Col:=[.int .i64 (g8 a0x),.bool (s9 a2g),.int .i64 (g8 a2z),.int .i64 (g8 a0w),.bool (s9 a05),.int .i64 (g8 a04),.int .i64 (g8 a3n),.bool (s9 a0s)]
theorem d11:b9g (b2w 5 (Rows.laid_modelcheck_event_rows:DataW Unit)) 8 d3k 17=true:=by kernel_rfl
theorem d28 {W:World} {e:Nat→Option (Option Addr × Nat)} (he:e 0=some (some ⟨0,0,none⟩,17)) (h:laidMetH Tryz.prog [("modelcheck/event.rows",Rows.laid_modelcheck_event_rows)] W):BR (a5b W e) W 0 tbl:=by
 have h0:laidMet Tryz.prog [("modelcheck/event.rows",Rows.laid_modelcheck_event_rows)] W:=h
 have hv:=c66 gTab c88 c9a h0
 have hc:∀ i,W.cell? ⟨0,i,none⟩=(b2w 5 (Rows.laid_modelcheck_event_rows:DataW Unit))[i]?:=fun i=>by
  have:=World.var?_cell gTab hv i
  simpa using this
 refine⟨some ⟨0,0,none⟩,17,he,z0r _,fun _=>⟨⟨0,0,none⟩,rfl,?_,fun j hj k col hk=>?_⟩⟩
 ·obtain⟨v,hv',_⟩:=b5v d11 0 (by omega) 0 _ rfl
  have:=hc (0 * 8 + 0)
  rw[hv'] at this
  exact World.block_lt_of_cell? W _ this
 ·obtain⟨v,hv',hd⟩:=b5v d11 j hj k col hk
  refine⟨v,?_,hd _ _⟩
  have:=hc (j * 8 + k)
  rw[hv'] at this
  simpa [Addr.add_lit] using this
theorem d29 {W:World} {fid:FuncId} {fn:Func} {K:Kit} {m0:List MBlk} {vs:List SV} {xs:List Value} {e:Nat→Option (Option Addr × Nat)} (hT:TabOk Tryz.prog K.tab) (hK:K.g=true) (hf:Tryz.prog.funcs[fid]?=some fn)
  (he0:e 0=some (some ⟨0,0,none⟩,17)) (hE:∀ i,e i≠none→i < m0.length) (hok:a16 m0=true) (hbr:∀ i k,m0[i]?=some k→e i≠none→BR (a5b W e) W i k) (hd:DenL (a5b W e) vs xs) (hv:s4 K.tab fn vs m0 (m4 .tt)) :
  Calls Tryz.prog fid xs.toArray W fun x W'=>x=.returned (.bool true)∧Below W.heap.size W W':=by
 refine Calls.mono (b0a (B:=⟨fun g=>g < W.heap.size,fun g=>g < W.heap.size⟩) (w0:=W) (ρ:=a5b W e) hT hf hv ⟨fun g hg=>hg,fun g hg=>.inl hg.2,fun g hg=>hg,.refl _ _,hbr,hE,fun _ _ h=>h.elim,fun _ _ _ h=>h.elim,fun _ _ _ _ _ _ h=>h.elim,fun r s k l a b c d hk _ ho=>?_⟩ ⟨fun g i hgi=>?_,fun p hp=>?_⟩ hd) fun x W' ⟨v,ρ',m',sv,hx,hdv,hm,hp,_⟩=>⟨?_,hm.below.below⟩
 ·rw[(b1q hok hk).2] at ho; cases ho
 ·have:j9 GL g=some i:=by simpa [Kit.tab,Kit.gl,hK] using hgi
  have h1:g=0∧i=0:=by
   have:=a09 this
   simpa [GL] using this
  obtain⟨rfl,rfl⟩:=h1
  exact⟨17,he0⟩
 ·cases hp
 ·rw[hx,(a4g _ _ _ hp hdv).tt_inv]
open Go Go.Proofs.YtaeeaniofljmnaaGreatDoor.Sx
noncomputable def b1g (os:Os):World:=
 { World.holding Tryz.prog os ⟨#[],#[],[]⟩ with heap:=(World.holding Tryz.prog os ⟨#[],#[],[]⟩).heap.modify 0 fun
   | .cells _ t frozen=>.cells (b2w 5 (Rows.laid_modelcheck_event_rows:DataW Unit)).toArray t frozen
   | o=>o }
theorem c8l (os:Os) (args:Array Value):laidMet Tryz.prog [("modelcheck/event.rows",Rows.laid_modelcheck_event_rows)] ((b1g os).forCall (fun _ _=>0) ⟨#[],args,[]⟩).memory:=
 laidMet_of_run' 8 (by kernel_rfl) (by kernel_rfl)
def eG2 (y0 y1 y2 y3 y4 y5:Option Addr × Nat):Nat→Option (Option Addr × Nat):=fun i=>[(some ⟨0,0,none⟩,17),y0,y1,y2,y3,y4,y5][i]?
theorem d6n {y0 y1 y2 y3 y4 y5:Option Addr × Nat} (E:List Ev) (R:List Int) (M:List (List Int)) (E':List Ev) (R':List Int) (M':List (List Int)):∀ i,eG2 y0 y1 y2 y3 y4 y5 i≠none→i < (b0e E R M E' R' M').length:=fun i hi=>by
 match i,hi with
 | 0,_ | 1,_ | 2,_ | 3,_ | 4,_ | 5,_ | 6,_=>simp[b0e]
 | i + 7,hi=>exact absurd (by simp[eG2]) hi
theorem d6m {W:World} {y0 y1 y2 y3 y4 y5:Option Addr × Nat} {E:List Ev} {R:List Int} {M:List (List Int)} {E':List Ev} {R':List Int} {M':List (List Int)} (b0:BR (a5b W (eG2 y0 y1 y2 y3 y4 y5)) W 0 tbl) (b1:BR (a5b W (eG2 y0 y1 y2 y3 y4 y5)) W 1 (.arr E.length (i6 E))) (b2:BR (a5b W (eG2 y0 y1 y2 y3 y4 y5)) W 2 (.arr R.length (e8 R))) (b3:BR (a5b W (eG2 y0 y1 y2 y3 y4 y5)) W 3 (.arr M.length (i4 M)))
  (b4:BR (a5b W (eG2 y0 y1 y2 y3 y4 y5)) W 4 (.arr E'.length (i6 E'))) (b5:BR (a5b W (eG2 y0 y1 y2 y3 y4 y5)) W 5 (.arr R'.length (e8 R'))) (b6:BR (a5b W (eG2 y0 y1 y2 y3 y4 y5)) W 6 (.arr M'.length (i4 M'))):∀ i k,(b0e E R M E' R' M')[i]?=some k→eG2 y0 y1 y2 y3 y4 y5 i≠none→BR (a5b W (eG2 y0 y1 y2 y3 y4 y5)) W i k:=fun i k hk _=>by
 match i,hk with
 | 0,hk=>simp only[b0e,z1w,z0a] at hk; subst hk; exact b0
 | 1,hk=>simp only[b0e,z1l,z1w,z0a] at hk; subst hk; exact b1
 | 2,hk=>simp only[b0e,z1l,z1w,z0a] at hk; subst hk; exact b2
 | 3,hk=>simp only[b0e,z1l,z1w,z0a] at hk; subst hk; exact b3
 | 4,hk=>simp only[b0e,z1l,z1w,z0a] at hk; subst hk; exact b4
 | 5,hk=>simp only[b0e,z1l,z1w,z0a] at hk; subst hk; exact b5
 | 6,hk=>simp only[b0e,z1l,z1w,z0a] at hk; subst hk; exact b6
 | i + 7,hk=>simp[b0e] at hk
def rdG (P:List Pq) (L:List Int) (k i:Int):Bool:=!((b7 (0,0) P i.toNat).2 == k && decide (w9 L (b7 (0,0) P i.toNat).1 < 0))
def b0s (P:List Pq) (L:List Int) (k:Int):Bool:=j8 (rdG P L k) P.length
def d7s:SpP:=fun | [.lf (.r N l),.lf (.is L),.lf (.i k)]=>some ([L9 l∧L40 L.length],plB (b0s l L k)) | _=>none
def kRdy (nm:List (Option AV)):Nat × (List MBlk→List SV→Option AR):=(67,q6 EL none nm [.lf .r,.lf .is,.lf .i] d7s)
def psO (L:List Int) (x:Int):Int:=bif decide (x ≥ 0) then w9 L x else x
def orR (R:List Int) (L:List Int):List Int:=L.map (fun i=>psO L (inA R i))
def orM (M:List (List Int)) (L:List Int):List (List Int):=M.map (fun r=>r.map (w9 L))
def lC2 (E:List Ev) (f:Int→Int) (L:List Int) (t c a b r:Nat):LAnn:=s8 L.length t (fun _=>True) (fun j=>[(c,.cells [.sl a j,.sl b j,.sl r 0]),(a,.oarr 85 j (i6 (mpA (evA E) 0 L j))),(b,.oarr 3 j (e8 (mpA f 0 L j)))]) [a,b]
def lC3 (M:List (List Int)) (f:Int→Int) (n t c a b r:Nat):LAnn:=s8 M.length t (fun _=>True) (fun o=>[(c,.cells [.sl a n,.sl b n,.sl r o]),(r,.oarr 23 o (i4 (mpA (fun q=>q.map f) [] M o)))]) [r]
def lC4 (M:List (List Int)) (f:Int→Int) (t s e:Nat):PLoop:=⟨Nat,fun o=>{ X:=Nat,inv:=fun q=>q≤(t8 M o).length∧o < M.length,slots:=fun q=>[(t,.i .i64 (q:Int)),(s,.sl e q)],mem:=fun q=>[(e,.oarr 3 q (e8 (mpA f 0 (t8 M o) q)))],mu:=fun q=>(t8 M o).length - q,kill:=[e] }⟩
def d7t:SpG:=fun
 | [.ag [.es E,.is R,.rs M],.lf (.is L)]=>some ([pcA E R M L],.gr none (arE E L) (orR R L) (orM M L))
 | _=>none
def kReo (nm:List (Option AV)):Nat × (List MBlk→List SV→Option AR):=(68,q6 EL none nm [PG,.lf .is] d7t)
def a5c (a b:Ev):Bool:=a.ag == b.ag && (a.ix == b.ix && (a.k == b.k && (a.ob == b.ob && (a.mu == b.mu && (a.en == b.en && (a.od == b.od && (a.rd == b.rd && a.wr == b.wr)))))))
def kInt (nm:List (Option AV)):Nat × (List MBlk→List SV→Option AR):=(74,q6 EL none nm [.lf .is,.lf .is] c76)
def c90 (E:List Ev) (R:List Int) (M:List (List Int)) (E':List Ev) (R':List Int) (M':List (List Int)):List (Option AV):=[some (.es E),some (.is R),some (.rs M),some (.es E'),some (.is R'),some (.rs M')]
theorem d1p {a b:Int} (h:a < b):j5 a b = -1:=by unfold j5; simp[h]
theorem d1o {a b:Int} (h:b < a):j5 a b=1:=by
 have:¬ a < b:=by omega
 unfold j5; simp[h,this]
theorem c44 {a b:Int} (h:¬ a < b) (h':¬ b < a):j5 a b=0:=by unfold j5; simp[h,h']
theorem fo74:s5 Tryz.prog 74:=⟨Tryz.f74,Tryz.func74,by kernel_rfl,by kernel_rfl⟩
def q74D (l m:List Int):Prop:=s4 (({ loops:=[(0,.of (b2s j5 0 l m 5))] }:Kit)).tab Tryz.f74 [.sl 0 l.length,.sl 1 m.length] [.arr l.length (e8 l),.arr m.length (e8 m)] (m4 (.i .i64 (o9 j5 l m)))
theorem d9d (l m:List Int):q74D l m=(
 let a:=(0:Int)
 let b:=(↑l.length:Int)
 let c:=(↑m.length:Int)
 let d:=PLoop.of (b2s j5 a l m (5:Nat))
 ∃(x:PUnit),(∃(x:Nat),(x≤l.length∧x≤m.length∧∀(q:Nat),q < x→j5 (b7 a l q) (b7 a m q)=a)∧(a=(↑x:Int)∧True)∧True)∧∀(x_1:Nat),(x_1≤l.length∧x_1≤m.length∧∀(q:Nat),q < x_1→j5 (b7 a l q) (b7 a m q)=a)→((decide ((↑x_1:Int) < b) && decide ((↑x_1:Int) < c))=true→(a≤(↑x_1:Int)∧(↑x_1:Int) < b)∧x_1 < l.length∧(a≤(↑x_1:Int)∧(↑x_1:Int) < c)∧x_1 < m.length∧(decide (b7 a l x_1 < b7 a m x_1)=true→(-1:Int)=o9 j5 l m)∧(decide (b7 a l x_1 < b7 a m x_1)=false→(a≤(↑x_1:Int)∧(↑x_1:Int) < b)∧x_1 < l.length∧(a≤(↑x_1:Int)∧(↑x_1:Int) < c)∧x_1 < m.length∧(decide (b7 a l x_1 > b7 a m x_1)=true→(1:Int)=o9 j5 l m)∧(decide (b7 a l x_1 > b7 a m x_1)=false→∃(x_2:Nat),(x_2≤l.length∧x_2≤m.length∧∀(q:Nat),q < x_2→j5 (b7 a l q) (b7 a m q)=a)∧(d.ann x).mu x_2 < (d.ann x).mu x_1∧(l.length=l.length∧m.length=m.length∧IntKind.i64.wrap ((↑x_1:Int) + (1:Int))=(↑x_2:Int)∧True)∧eqA l.length (e8 l)∧eqA m.length (e8 m)∧True)))∧((decide ((↑x_1:Int) < b) && decide ((↑x_1:Int) < c))=false→(decide (b < c)=true→(-1:Int)=o9 j5 l m)∧(decide (b < c)=false→(decide (b > c)=true→(1:Int)=o9 j5 l m)∧(decide (b > c)=false→a=o9 j5 l m)))):=by kernel_rfl
theorem v74 (l m:List Int) (h:L40 l.length):q74D l m:=by
 rw[d9d]
 simp only[eq_self,true_and,and_true,z0o,imp_self,o6,o8,p7,i7,i9,PLoop.of,s8,AV.len,j4,z0u,l4,l5,l6,m8,m9,n5,b2s]
 have h:l.length≤1099511627776:=h
 refine⟨(),⟨0,⟨by omega,by omega,fun q hq=>by omega⟩,rfl⟩,fun j hj=>⟨fun hlj=>?_,fun hlj=>?_⟩⟩
 ·simp only[z0d,z1m] at hlj
  have h1:j < l.length:=by omega
  have h2:j < m.length:=by omega
  refine⟨⟨by omega,by omega⟩,h1,⟨by omega,by omega⟩,h2,fun hd=>?_,fun hd=>⟨⟨by omega,by omega⟩,h1,⟨by omega,by omega⟩,h2,fun he=>?_,fun he=>⟨j + 1,⟨by omega,by omega,fun q hq=>?_⟩,by omega,wrS (n:=l.length) h1 h⟩⟩⟩
  ·have e:=d1p (z0e hd)
   rw[b01 (d:=0) hj.2.2 h1 h2 (by rw[e]; decide),e]
  ·have e:=d1o (z0e he)
   rw[b01 (d:=0) hj.2.2 h1 h2 (by rw[e]; decide),e]
  ·by_cases hq2:q=j
   ·subst hq2; exact c44 (z0i hd) (z0i he)
   ·exact hj.2.2 q (by omega)
 ·have hz:o9 j5 l m=bif decide (m.length < l.length) then 1 else bif decide (l.length < m.length) then -1 else 0:=a7s (d:=0) fun q h1 h2=>hj.2.2 q (by
   have:¬ (j < l.length∧j < m.length):=fun hc=>by
    have:(decide ((j:Int) < l.length) && decide ((j:Int) < m.length))=true:=by simp; omega
    rw[this] at hlj; cases hlj
   omega)
  rw[hz]
  refine⟨fun hd=>?_,fun hd=>⟨fun he=>?_,fun he=>?_⟩⟩
  ·have:=z0e hd
   rw[decide_eq_false (by omega),decide_eq_true (by omega)]; rfl
  ·have:=z0e he
   rw[decide_eq_true (by omega)]; rfl
  ·have:=z0i hd
   have:=z0i he
   rw[decide_eq_false (by omega),decide_eq_false (by omega)]; rfl
theorem n74 (nm:List (Option AV)):CallOk Tryz.prog [] 74 (q6 EL none nm [.lf .is,.lf .is] c76):=z4 Tryz.func74 fo74 fun av pre rv h=>by
 unfold c76 at h; split at h <;> cases h
 exact⟨⟨rfl,fun t a e=>by cases e <;> exact z0h _ _⟩,fun hp=>⟨_,v74 _ _ (hp _ (.head _)),rfl,v4,v5⟩⟩
def b4b (e:Ev):List Ev→Nat→Int
 | [],_=>-1
 | x :: r,i=>bif a5c x e then(i:Int) else b4b e r (i + 1)
def n7 (E:List Ev) (e:Ev):Int:=b4b e E 0
def b8d (E:List Ev) (e:Ev) (i:Int):Bool:=!a5c (evA E i) e
def d7l:SpP:=fun | [.ag [.es E,.is R,.rs M],.lf (.ev e)]=>some ([L40 E.length],plI (n7 E e)) | _=>none
def kFnd (nm:List (Option AV)):Nat × (List MBlk→List SV→Option AR):=(93,q6 EL none nm [PG,.lf .ev] d7l)
def b1a (l m:List Int) (i:Int):Bool:=inA l i == inA m i
def smI (l m:List Int):Bool:=!((l.length:Int) != (m.length:Int)) && j8 (b1a l m) l.length
def d7w:SpP:=fun | [.lf (.is l),.lf (.is m)]=>some ([L40 l.length],plB (smI l m)) | _=>none
def kSmI (nm:List (Option AV)):Nat × (List MBlk→List SV→Option AR):=(91,q6 EL none nm [.lf .is,.lf .is] d7w)
def b4y (E:List Ev):Nat→Int→Option Int
 | 0=>fun _=>none
 | j + 1=>fun q=>bif q == pk (evA E j).ag (evA E j).ix then some (j:Int) else b4y E j q
def nbM (E:List Ev):Int→Option Int:=b4y E E.length
def lNb (E:List Ev) (t r:Nat):LAnn:=s8 E.length t (fun _=>True) (fun j=>[(r,.mapi .i8 (some .i64) (b4y E j))]) []
def sNb:SpG:=fun | [.ag [.es E,.is R,.rs M]]=>some ([L40 E.length],.m1 .i8 (some .i64) (nbM E)) | _=>none
def kNb (nm:List (Option AV)):Nat × (List MBlk→List SV→Option AR):=(90,q6 EL none nm [PG] sNb)
def a3c (e:Ev):List Int:=[e.ag,e.ix,e.k,e.ob,e.mu,e.en,e.od,e.rd,e.wr]
def d7o:SpP:=fun | [.lf (.ev e)]=>some ([],.rv (.sl (fun k=>.sl 0 k) (.is (a3c e)))) | _=>none
def kNmL (nm:List (Option AV)):Nat × (List MBlk→List SV→Option AR):=(100,q6 EL none nm [.lf .ev] d7o)
theorem c4b {e:Ev}:∀ {E:List Ev} {j i:Nat},(∀ q,q < j→a5c (b7 e0 E q) e=false)→j < E.length→a5c (b7 e0 E j) e=true→b4b e E i=i + j:=by
 intro E
 induction E with
 | nil=>intro j i _ h; simp at h
 | cons x r ih =>
  intro j i h1 h2 h3
  cases j with
  | zero =>
   have:a5c x e=true:=by simpa [b7] using h3
   rw[b4b,this]; simp
  | succ j =>
   have hx:a5c x e=false:=by have:=h1 0 (by omega); simpa [b7] using this
   have:=ih (j:=j) (i:=i + 1) (fun q hq=>h1 (q + 1) (by omega)) (by simpa using h2) h3
   rw[b4b,hx,z0l,this]; omega
theorem b9v {e:Ev}:∀ {E:List Ev} {i:Nat},(∀ q,q < E.length→a5c (b7 e0 E q) e=false)→b4b e E i = -1:=by
 intro E
 induction E with
 | nil=>intro i _; rfl
 | cons x r ih =>
  intro i h1
  have hx:a5c x e=false:=by have:=h1 0 (by simp); simpa [b7] using this
  rw[b4b,hx,z0l,ih fun q hq=>h1 (q + 1) (by simpa using hq)]
theorem c01 {E:List Ev} {e:Ev} {j:Nat} (h:j8 (b8d E e) j=true):∀ q,q < j→a5c (b7 e0 E q) e=false:=fun q hq=>by
 have:=x4.1 h q hq
 rw[b8d,evA,z0s,z0v] at this
 exact this
theorem fo93:s5 Tryz.prog 93:=⟨Tryz.f93,Tryz.func93,by kernel_rfl,by kernel_rfl⟩
def q93D (E:List Ev) (R:List Int) (M:List (List Int)) (e:Ev):Prop:=s4 (({ loops:=[(0,.of (lAl (b8d E e) E.length 5))] }:Kit)).tab Tryz.f93 [grV E R M,a5o e] (grM E R M) (m4 (.i .i64 (n7 E e)))
theorem d9p (E:List Ev) (R:List Int) (M:List (List Int)) (e:Ev):q93D E R M e=(
 let a:=e.ag=e.ag∧e.ix=e.ix∧e.k=e.k∧e.ob=e.ob∧e.mu=e.mu∧e.en=e.en∧e.od=e.od∧e.rd=e.rd∧e.wr=e.wr
 let b:=E.length=E.length∧R.length=R.length∧M.length=M.length
 let c:=PLoop.of (lAl (b8d E e) E.length (5:Nat))
 let d:=(↑E.length:Int)
 ∃(x:PUnit),(∃(x:Nat),(x≤E.length∧j8 (b8d E e) x=true)∧((0:Int)=(↑x:Int)∧True)∧True)∧∀(x_1:Nat),x_1≤E.length∧j8 (b8d E e) x_1=true→(decide ((↑x_1:Int) < d)=true→((0:Int)≤(↑x_1:Int)∧(↑x_1:Int) < d)∧x_1 < E.length∧(((b7 e0 E x_1).ag ==e.ag && ((b7 e0 E x_1).ix ==e.ix && ((b7 e0 E x_1).k ==e.k && ((b7 e0 E x_1).ob ==e.ob && ((b7 e0 E x_1).mu ==e.mu && ((b7 e0 E x_1).en ==e.en && ((b7 e0 E x_1).od ==e.od && ((b7 e0 E x_1).rd ==e.rd && (b7 e0 E x_1).wr ==e.wr))))))))=true→(↑x_1:Int)=n7 E e)∧(((b7 e0 E x_1).ag ==e.ag && ((b7 e0 E x_1).ix ==e.ix && ((b7 e0 E x_1).k ==e.k && ((b7 e0 E x_1).ob ==e.ob && ((b7 e0 E x_1).mu ==e.mu && ((b7 e0 E x_1).en ==e.en && ((b7 e0 E x_1).od ==e.od && ((b7 e0 E x_1).rd ==e.rd && (b7 e0 E x_1).wr ==e.wr))))))))=false→∃(x_2:Nat),(x_2≤E.length∧j8 (b8d E e) x_2=true)∧(c.ann x).mu x_2 < (c.ann x).mu x_1∧(b∧a∧True∧True∧IntKind.i64.wrap ((↑x_1:Int) + (1:Int))=(↑x_2:Int)∧True)∧eqA E.length (i6 E)∧eqA R.length (e8 R)∧eqA M.length (i4 M)∧b∧a∧True))∧(decide ((↑x_1:Int) < d)=false→(-1:Int)=n7 E e)):=by kernel_rfl
theorem v93 (E:List Ev) (R:List Int) (M:List (List Int)) (e:Ev) (h:L40 E.length):q93D E R M e:=by
 rw[d9p]
 simp only[eq_self,true_and,and_true,z0o,imp_self,o6,o8,p7,i7,i9,PLoop.of,s8,AV.len,j4,z0u,l4,l5,l6,m8,m9,n5,lAl]
 have h:E.length≤1099511627776:=h
 refine⟨(),⟨0,⟨by omega,rfl⟩,rfl⟩,fun j hj=>⟨fun hlj=>?_,fun hlj=>?_⟩⟩
 ·have hj2:j < E.length:=by have:=z0e hlj; omega
  refine⟨⟨by omega,by omega⟩,hj2,fun hd=>?_,fun hd=>⟨j + 1,⟨by omega,?_⟩,by omega,wrS (n:=E.length) hj2 h⟩⟩
  ·rw[n7,c4b (c01 hj.2) hj2 hd]; omega
  ·have hd:a5c (b7 e0 E j) e=false:=hd
   rw[j8,hj.2,z0y,b8d,evA,z0s,hd]; rfl
 ·have hj2:j=E.length:=by have:=z0i hlj; omega
  subst hj2
  exact(b9v (c01 hj.2)).symm
theorem n93 (nm:List (Option AV)):CallOk Tryz.prog [] 93 (q6 EL none nm [PG,.lf .ev] d7l):=z4 Tryz.func93 fo93 fun av pre rv h=>by
 unfold d7l at h; split at h <;> cases h
 exact⟨⟨rfl,fun t a e=>by cases e <;> exact z0h _ _⟩,fun hp=>⟨_,v93 _ _ _ _ (hp _ (.head _)),rfl,v4,v5⟩⟩
theorem fo91:s5 Tryz.prog 91:=⟨Tryz.f91,Tryz.func91,by kernel_rfl,by kernel_rfl⟩
def q91D (l m:List Int):Prop:=s4 (({ loops:=[(0,.of (lAl (b1a l m) l.length 13))] }:Kit)).tab Tryz.f91 [.sl 0 l.length,.sl 1 m.length] [.arr l.length (e8 l),.arr m.length (e8 m)] (m4 (.b (smI l m)))
theorem d9n (l m:List Int):q91D l m=(
 let a:=(↑l.length:Int)
 let b:=(↑m.length:Int)
 let c:=PLoop.of (lAl (b1a l m) l.length (13:Nat))
 let d:=(0:Int)
 ((a !=b)=true→false=smI l m)∧((a !=b)=false→∃(x:PUnit),(∃(x:Nat),(x≤l.length∧j8 (b1a l m) x=true)∧(d=(↑x:Int)∧True)∧True)∧∀(x_1:Nat),x_1≤l.length∧j8 (b1a l m) x_1=true→(decide ((↑x_1:Int) < a)=true→(d≤(↑x_1:Int)∧(↑x_1:Int) < a)∧x_1 < l.length∧(d≤(↑x_1:Int)∧(↑x_1:Int) < b)∧x_1 < m.length∧((b7 d l x_1 !=b7 d m x_1)=true→false=smI l m)∧((b7 d l x_1 !=b7 d m x_1)=false→∃(x_2:Nat),(x_2≤l.length∧j8 (b1a l m) x_2=true)∧(c.ann x).mu x_2 < (c.ann x).mu x_1∧(l.length=l.length∧m.length=m.length∧l.length=l.length∧a=a∧m.length=m.length∧b=b∧false=false∧l.length=l.length∧a=a∧IntKind.i64.wrap ((↑x_1:Int) + (1:Int))=(↑x_2:Int)∧True)∧eqA l.length (e8 l)∧eqA m.length (e8 m)∧True))∧(decide ((↑x_1:Int) < a)=false→true=smI l m))):=by kernel_rfl
theorem v91 (l m:List Int) (h:L40 l.length):q91D l m:=by
 rw[d9n]
 simp only[eq_self,true_and,and_true,z0o,imp_self,o6,o8,p7,i7,i9,PLoop.of,s8,AV.len,j4,z0u,l4,l5,l6,m8,m9,n5,lAl]
 have h:l.length≤1099511627776:=h
 refine⟨fun hc=>by simp[smI,hc],fun hc=>⟨(),⟨0,⟨by omega,rfl⟩,rfl⟩,fun j hj=>⟨fun hlj=>?_,fun hlj=>?_⟩⟩⟩
 ·have hj2:j < l.length:=by have:=z0e hlj; omega
  have hlen:(l.length:Int)=m.length:=by simpa using hc
  refine⟨⟨by omega,by omega⟩,hj2,⟨by omega,by omega⟩,by omega,fun hd=>?_,fun hd=>⟨j + 1,⟨by omega,?_⟩,by omega,wrS (n:=l.length) hj2 h⟩⟩
  ·rw[smI,a06 (f:=b1a l m) hj2 (by rw[b1a,inA,inA,z0s]; simpa using hd),z3h]
  ·show(j8 (b1a l m) j && b1a l m j)=true
   rw[hj.2,b1a,inA,inA,z0s]; simpa using hd
 ·have hj2:j=l.length:=by have:=z0i hlj; omega
  subst hj2
  simp only[smI,hc,hj.2]
  rfl
theorem n91 (nm:List (Option AV)):CallOk Tryz.prog [] 91 (q6 EL none nm [.lf .is,.lf .is] d7w):=z4 Tryz.func91 fo91 fun av pre rv h=>by
 unfold d7w at h; split at h <;> cases h
 exact⟨⟨rfl,fun t a e=>by cases e <;> exact z0h _ _⟩,fun hp=>⟨_,v91 _ _ (hp _ (.head _)),rfl,v4,v5⟩⟩
theorem fo90:s5 Tryz.prog 90:=⟨Tryz.f90,Tryz.func90,by kernel_rfl,by kernel_rfl⟩
def q90D (E:List Ev) (R:List Int) (M:List (List Int)):Prop:=s4 (({ loops:=[(0,.of (lNb E 10 4))] }:Kit)).tab Tryz.f90 [grV E R M] (grM E R M) ((QV.m1 .i8 (some .i64) (nbM E)).post EL)
theorem d9m (E:List Ev) (R:List Int) (M:List (List Int)):q90D E R M=(
 let a:=(↑E.length:Int)
 let b:=E.length=E.length∧R.length=R.length∧M.length=M.length
 let c:=PLoop.of (lNb E (10:Nat) (4:Nat))
 ∃(x:PUnit),(∃(x:Nat),(x≤E.length∧True)∧((0:Int)=(↑x:Int)∧True)∧(∀(x_1:Int),none=b4y E x x_1)∧True)∧∀(x_1:Nat),x_1≤E.length∧True→(decide ((↑x_1:Int) < a)=true→((0:Int)≤(↑x_1:Int)∧(↑x_1:Int) < a)∧x_1 < E.length∧∃(x_2:Nat),(x_2≤E.length∧True)∧(c.ann x).mu x_2 < (c.ann x).mu x_1∧(b∧True∧True∧True∧True∧True∧E.length=E.length∧a=a∧IntKind.i64.wrap ((↑x_1:Int) + (1:Int))=(↑x_2:Int)∧True)∧eqA E.length (i6 E)∧eqA R.length (e8 R)∧eqA M.length (i4 M)∧b∧(∀(x:Int),(bif x ==pk (b7 e0 E x_1).ag (b7 e0 E x_1).ix then some (↑x_1:Int) else b4y E x_1 x)=b4y E x_2 x)∧True)∧(decide ((↑x_1:Int) < a)=false→∀(j:Int),b4y E x_1 j=nbM E j)):=by kernel_rfl
theorem v90 (E:List Ev) (R:List Int) (M:List (List Int)) (h:L40 E.length):q90D E R M:=by
 rw[d9m]
 simp only[eq_self,true_and,and_true,z0o,imp_self,o6,o8,p7,i7,i9,PLoop.of,s8,AV.len,j4,z0u,l4,l5,l6,m8,m9,n5,lNb]
 have h:E.length≤1099511627776:=h
 refine⟨(),⟨0,by omega,rfl,fun _=>rfl⟩,fun j hj=>⟨fun hlj=>?_,fun hlj=>?_⟩⟩
 ·have hj2:j < E.length:=by have:=z0e hlj; omega
  exact⟨⟨by omega,by omega⟩,hj2,j + 1,by omega,by omega,wrS (n:=E.length) hj2 h,fun _=>rfl⟩
 ·have hj2:j=E.length:=by have:=z0i hlj; omega
  subst hj2
  exact fun _=>rfl
theorem n90 (nm:List (Option AV)):CallOk Tryz.prog [] 90 (q6 EL none nm [PG] sNb):=z4 Tryz.func90 fo90 fun av pre rv h=>by
 unfold sNb at h; split at h <;> cases h
 exact⟨⟨rfl,fun t a e=>by cases e <;> exact z0h _ _⟩,fun hp=>⟨_,v90 _ _ _ (hp _ (.head _)),rfl,v4,v5⟩⟩
theorem e04:s5 Tryz.prog 100:=⟨Tryz.f100,Tryz.func100,by kernel_rfl,by kernel_rfl⟩
def d5f (e:Ev):Prop:=s4 (({}:Kit)).tab Tryz.f100 [a5o e] [] ((QV.rv (.sl (fun k=>.sl 0 k) (.is (a3c e)))).post EL)
theorem d3p (e:Ev):d5f e=((9:Nat)=(AV.is (a3c e)).len∧((∀(j:Nat),j < (AV.is (a3c e)).len→g8 [e.ag,e.ix,e.k,e.ob,e.mu,e.en,e.od,e.rd,e.wr] j=b7 (0:Int) (a3c e) j)∧True)∧(9:Nat)=(AV.is (a3c e)).len):=by kernel_rfl
theorem v100 (e:Ev) :d5f e:=by
 rw[d3p]
 simp only[eq_self,true_and,and_true,z0o,imp_self,o6,o8,p7,i7,i9,PLoop.of,s8,AV.len,j4,z0u,l4,l5,l6,m8,m9,n5]
 refine⟨rfl,fun j hj=>?_,rfl⟩
 have hj:j < 9:=hj
 match j,hj with
 | 0,_ | 1,_ | 2,_ | 3,_ | 4,_ | 5,_ | 6,_ | 7,_ | 8,_=>rfl
theorem n100 (nm:List (Option AV)):CallOk Tryz.prog [] 100 (q6 EL none nm [.lf .ev] d7o):=z4 Tryz.func100 e04 fun av pre rv h=>by
 unfold d7o at h; split at h <;> cases h
 exact⟨⟨rfl,fun t a e=>by cases e <;> exact z0h _ _⟩,fun hp=>⟨_,v100 _ ,rfl,v4,v5⟩⟩
end Go.Proofs.YtaeeaniofljmnaaGreatDoor

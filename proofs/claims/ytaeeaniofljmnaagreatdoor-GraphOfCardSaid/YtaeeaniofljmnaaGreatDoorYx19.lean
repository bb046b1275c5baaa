/-
  A part of the proof (Yx19).
-/
import Derived.Test.YtaeeaniofljmnaaGreatDoorYx18
namespace Go.Proofs.YtaeeaniofljmnaaGreatDoor.Sx
set_option linter.unusedSimpArgs false
set_option linter.unusedVariables false
open Go Go.RowKit
def w8:Nat→List MBlk
 | 0=>[]
 | n + 1=>.gone :: w8 n
theorem a2r (n:Nat):(w8 n).length=n:=by
 induction n with
 | zero=>rfl
 | succ n ih=>simp[w8,ih]
theorem b5b:∀(n r:Nat) (k:MBlk),(w8 n)[r]?=some k→k=.gone:=by
 intro n
 induction n with
 | zero=>intro r k h; simp[w8] at h
 | succ n ih =>
  intro r k h
  cases r with
  | zero=>simp[w8] at h; exact h.symm
  | succ r=>exact ih r k (by simpa [w8] using h)
def c1y (T:List (Nat × (Option Addr × Nat))→Tab) (fn:Func) (g:Nat) (x y:SV) (cx cy:List SV):Prop:=
 ∀(k:Nat) (ps:List (Nat × (Option Addr × Nat))),n9 (T ps) fn [x,y] (w8 k) (fun sv m=>sv=.fn g [.ptr (w8 k).length 0,.ptr (w8 k ++ [MBlk.cells cx]).length 0]∧m=w8 k ++ [MBlk.cells cx] ++ [MBlk.cells cy])
inductive CellsIs:SV→List SV→Prop
 | agg (xs:List SV):CellsIs (.agg xs) xs
 | fn (f:Nat) (xs:List SV):CellsIs (.fn f xs) [.fn f xs]
 | i (k:IntKind) (n:Int):CellsIs (.i k n) [.i k n]
section
variable {P:Program} {G:List (Nat × Nat)} {fid:FuncId} {fn:Func} {g:Nat}
theorem c5l (T:List (Nat × (Option Addr × Nat))→Tab) (hT:∀ ps,TabOk P (T ps)) (hg:∀ ps,(T ps).globals=[]∧(T ps).pins=ps) (hfn:P.funcs[fid]?=some fn) (hok:o8 P fid)
  {F:List MBlk→List SV→Option AR} (hv:∀(m:List MBlk) (vs:List SV) (ar:AR),F m vs=some ar→∃ x y cx cy,vs=[x,y]∧ltL vs m.length=true∧CellsIs x cx∧CellsIs y cy∧ar=⟨[],.fn g [.ptr m.length 0,.ptr (m.length + 1) 0],[.cells cx,.cells cy]⟩∧c1y T fn g x y cx cy):CallOk P G fid F:=by
 refine⟨hok,fun ρ W m vs xs ar hGl hS hblk hf hd h hp=>?_⟩
 obtain⟨x,y,cx,cy,rfl,hlt,hx,hy,rfl,hvc⟩:=hv m vs ar h
 let ps:List (Nat × (Option Addr × Nat)):=(List.range m.length).filterMap (fun r=>(ρ r).map (fun z=>(r,z)))
 have hps:∀ r z,(r,z)∈ps↔r < m.length∧ρ r=some z:=fun r z=>by
  simp only[ps,List.mem_filterMap,z2q,z0h,z0g]
  constructor
  ·rintro ⟨r',h1,z',h2,rfl,rfl⟩; exact⟨h1,h2⟩
  ·rintro ⟨h1,h2⟩; exact⟨r,h1,z,h2,rfl,rfl⟩
 let e0:Env:=⟨fun r=>if r < m.length then ρ r else none,fun g=>g < W.heap.size,ρ.R,fun _ _=>False⟩
 have he1:∀ r z,r < m.length→ρ r=some z→e0 r=some z:=fun r z hr hz=>by simp only[e0,if_pos hr]; exact hz
 have hd0:DenL e0 [x,y] xs:=⟨hd.1,fun j z v hz hv'=>a05 (a23 hlt hz) (fun r w hr hw=>he1 r w hr hw) (hd.2 j z v hz hv')⟩
 obtain⟨u1,us1,rfl,d1,d2⟩:=hd.inv
 obtain⟨u2,us2,rfl,d4,d3⟩:=d2.inv
 obtain rfl:=d3.inv_nil
 have hm0:MR (a1y ρ W) W W e0 (w8 m.length):=⟨fun g hg=>hg,fun g hg=>.inl hg.2,fun g hg=>hg,.refl _ _,fun i k hk _=>by rw[b5b _ _ _ hk]; trivial,fun i hi=>by
   rw[a2r]
   exact Classical.byContradiction fun h=>hi (if_neg h),fun _ _ h=>h.elim,fun _ _ _ h=>h.elim,fun _ _ _ _ _ _ h=>h.elim,fun r s k l a b c d hk hl h1=>by rw[b5b _ _ _ hk] at h1; cases h1⟩
 have hgl:GlobOk (T ps) e0:=⟨fun g r h=>(by rw[(hg ps).1] at h; cases h),fun p hp=>by
  rw[(hg ps).2] at hp
  obtain⟨r,z⟩:=p
  obtain⟨h1,h2⟩:=(hps r z).1 hp
  exact he1 r z h1 h2⟩
 refine Calls.mono (a94 (hT ps) hfn (hvc m.length ps) hm0 hgl hd0) ?_
 rintro e W' ⟨v,ρ',m',sv,rfl,hdv,hmr,⟨rfl,rfl⟩,hgl'⟩
 refine⟨v,rfl,Keeps.callee hmr,?_⟩
 have hpin:∀ r z,r < m.length→ρ r=some z→ρ' r=some z:=fun r z h1 h2=>hgl'.pin (r,z) (by rw[(hg ps).2]; exact(hps r z).2 ⟨h1,h2⟩)
 have hlen:(w8 m.length ++ [MBlk.cells cx] ++ [MBlk.cells cy]).length=m.length + 2:=by simp[a2r]
 have hl1:(w8 m.length ++ [MBlk.cells cx]).length=m.length + 1:=by simp[a2r]
 rw[a2r,hl1] at hdv
 let σ:Env:=⟨fun r=>if r=m.length then ρ' r else if r=m.length + 1 then ρ' r else ρ r,ρ.S,ρ.T,ρ.X⟩
 have s0:σ m.length=ρ' m.length:=if_pos rfl
 have s1:σ (m.length + 1)=ρ' (m.length + 1):=by show(if m.length + 1=m.length then _ else if m.length + 1=m.length + 1 then ρ' (m.length + 1) else _)=_; rw[if_neg (by omega),if_pos rfl]
 have hn0:ρ m.length=none:=hf m.length (z0q _) (by simp)
 have hn1:ρ (m.length + 1)=none:=hf (m.length + 1) (by omega) (by simp)
 have sO:∀ r,ρ r≠none→σ r=ρ r:=fun r hr=>by
  simp only[σ]
  rw[if_neg (fun e=>hr (by rw[e]; exact hn0)),if_neg (fun e=>hr (by rw[e]; exact hn1))]
 have lie:∀ {c:SV} {w w':Value},Den ρ c w→Den ρ' c w'→Den σ c w':=fun {c w w'} hc hc'=>hc.lies ρ' σ w' (fun r z hr hz=>by
  rw[sO r hr]
  obtain⟨z0,h0⟩:=z1v.1 hr
  by_cases hrm:r < m.length
  ·rw[h0,← hpin r z0 hrm h0]; exact hz
  ·have:=hmr.dom r (by rw[hz]; simp)
   rw[hlen] at this
   exfalso
   have:r=m.length∨r=m.length + 1:=by omega
   rcases this with rfl | rfl
   ·exact hr hn0
   ·exact hr hn1) hc'
 have cellsD:∀ {x:SV} {cs:List SV} {u:Value} {ws:List Value},CellsIs x cs→Den ρ x u→DenL ρ' cs ws→DenL σ cs ws:=fun {x cs u ws} hx hu hw=>by
  refine⟨hw.1,fun j c w hc hwj=>?_⟩
  cases hx with
  | agg xs =>
   obtain⟨vs,rfl,hv⟩:=hu.agg_inv
   obtain⟨w0,_,hdw⟩:=hv.get hc
   exact lie hdw (hw.2 j c w hc hwj)
  | fn f xs =>
   have:j=0:=by have:=(z0c.1 hc).1; simpa using this
   subst this
   simp at hc
   subst hc
   exact lie hu (hw.2 0 _ w rfl hwj)
  | i k n =>
   have:j=0:=by have:=(z0c.1 hc).1; simpa using this
   subst this
   simp at hc
   subst hc
   exact lie hu (hw.2 0 _ w rfl hwj)
 obtain⟨ws,rfl,hws⟩:∃ ws:List Value,v=.func (.func g) #[] ws.toArray∧DenL ρ' [.ptr m.length 0,.ptr (m.length + 1) 0] ws:=by
  cases hdv with
  | fn h1 h2=>exact⟨_,rfl,h1,h2⟩
 obtain⟨w1,ws,rfl,p1,hws⟩:=hws.inv
 obtain⟨w2,ws,rfl,p2,hws⟩:=hws.inv
 obtain rfl:=hws.inv_nil
 obtain⟨a1,c1,q1,rfl⟩:=p1.ptr_inv
 obtain⟨a2,c2,q2,rfl⟩:=p2.ptr_inv
 have b1:=hmr.blk m.length (.cells cx) (by rw[z1y,z1c (by rw[a2r]; exact z0q _),a2r]; simp) (by rw[q1]; simp)
 have b2:=hmr.blk (m.length + 1) (.cells cy) (by rw[z1c (by rw[hl1]; exact z0q _),hl1]; simp) (by rw[q2]; simp)
 have sep:=hmr.sep m.length (m.length + 1) (.cells cx) (.cells cy) a1 a2 c1 c2 (by rw[z1y,z1c (by rw[a2r]; exact z0q _),a2r]; simp) (by rw[z1c (by rw[hl1]; exact z0q _),hl1]; simp) rfl rfl q1 q2
 obtain⟨o1,o2⟩:=t9 b1 rfl q1
 obtain⟨o3,o4⟩:=t9 b2 rfl q2
 have ge1:W.heap.size≤a1.block:=z1z fun h=>o1 (hmr.sub _ h)
 have ge2:W.heap.size≤a2.block:=z1z fun h=>o3 (hmr.sub _ h)
 have hl:DenL σ [.ptr m.length 0,.ptr (m.length + 1) 0] [.pointer (some (a1.add 0)),.pointer (some (a2.add 0))]:=DenL.cons (.ptr (s0.trans q1)) (DenL.cons (.ptr (s1.trans q2)) (DenL.nil _))
 refine⟨σ,fun r hr=>?_,⟨fun _ h=>h,fun _ h=>.inl h,fun _ h=>h,fun _ h=>.inl h,rfl⟩,.fn hl.1 hl.2,⟨fun j b hj _=>?_,fun j b a c hj ho hx=>?_,fun j l b d a c x y hj hl' _ _ hx hy hac=>?_⟩⟩
 ·have h1:r < m.length∨m.length + 2≤r:=hr
  simp only[σ]
  rw[if_neg (by omega),if_neg (by omega)]
 ·match j,hj with
  | 0,hj =>
   simp at hj
   subst hj
   obtain⟨gb,t,vs,c,h1,h2,h3,h4⟩:=b1
   exact⟨gb,t,vs,c,s0.trans h1,fun hs=>by
    have:=hS _ hs
    rw[q1] at h1
    simp only[z0a,z0g] at h1
    rw[h1.1] at ge1
    simp at ge1
    omega,h3,cellsD hx d1 h4⟩
  | 1,hj =>
   simp at hj
   subst hj
   obtain⟨gb,t,vs,c,h1,h2,h3,h4⟩:=b2
   exact⟨gb,t,vs,c,s1.trans h1,fun hs=>by
    have:=hS _ hs
    rw[q2] at h1
    simp only[z0a,z0g] at h1
    rw[h1.1] at ge2
    simp at ge2
    omega,h3,cellsD hy d4 h4⟩
  | j + 2,hj=>simp at hj
 ·match j,hj with
  | 0,hj=>rw[z1i,s0,q1] at hx; simp only[z0a,z0g] at hx; rw[← hx.1]; exact ge1
  | 1,hj=>rw[s1,q2] at hx; simp only[z0a,z0g] at hx; rw[← hx.1]; exact ge2
  | j + 2,hj=>simp at hj
 ·match j,l,hj,hl' with
  | 0,0,_,_=>rfl
  | 1,1,_,_=>rfl
  | 0,1,_,_ =>
   rw[z1i,s0,q1] at hx
   rw[s1,q2] at hy
   simp only[z0a,z0g] at hx hy
   have:=sep (by rw[hx.1,hy.1]; exact hac)
   omega
  | 1,0,_,_ =>
   rw[z1i,s0,q1] at hy
   rw[s1,q2] at hx
   simp only[z0a,z0g] at hx hy
   have:=sep (by rw[hx.1,hy.1]; exact hac.symm)
   omega
  | j + 2,_,hj,_=>simp at hj
  | _,l + 2,_,hl'=>simp at hl'
end
end Go.Proofs.YtaeeaniofljmnaaGreatDoor.Sx

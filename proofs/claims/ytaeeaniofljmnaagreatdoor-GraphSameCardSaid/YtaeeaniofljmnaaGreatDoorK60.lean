/-
  A part of the proof (K60).
-/
import Derived.Test.YtaeeaniofljmnaaGreatDoorKSo
namespace Go.Proofs.YtaeeaniofljmnaaGreatDoor
set_option linter.unusedSimpArgs false
set_option linter.unusedVariables false
open Go Go.Proofs.YtaeeaniofljmnaaGreatDoor.Sx
set_option maxRecDepth 100000
theorem fo43:s5 Tryz.prog 43:=⟨Tryz.f43,Tryz.func43,by kernel_rfl,by kernel_rfl⟩
theorem e05:s5 Tryz.prog 101:=⟨Tryz.f101,Tryz.func101,by kernel_rfl,by kernel_rfl⟩
theorem e1h {l:List (Nat × PLoop)} {t:List (Nat × (List Slot→List MBlk→List Gh))} {s:List Nat}:a2x (101,⟨Tryz.f101,l,t,s⟩):=⟨Tryz.func101,e05⟩
def c36 (E:List Ev) (R:List Int) (M:List (List Int)) (E':List Ev) (R':List Int) (M':List (List Int)) (x:PUnit) (x_1 x_2 x_3:Nat) (us:List Value):Prop:=
 let a:=(d5 (d6 E' R' M') (arE E' (d7 E' R' M'))).length=(d5 (d6 E' R' M') (arE E' (d7 E' R' M'))).length∧(d5 (d6 E' R' M') (orR R' (d7 E' R' M'))).length=(d5 (d6 E' R' M') (orR R' (d7 E' R' M'))).length∧(d5 (d6 E' R' M') (YtaeeaniofljmnaaGreatDoor.orM M' (d7 E' R' M'))).length=(d5 (d6 E' R' M') (YtaeeaniofljmnaaGreatDoor.orM M' (d7 E' R' M'))).length
 let b:=(d5 (d6 E R M) (arE E (d7 E R M))).length=(d5 (d6 E R M) (arE E (d7 E R M))).length∧(d5 (d6 E R M) (orR R (d7 E R M))).length=(d5 (d6 E R M) (orR R (d7 E R M))).length∧(d5 (d6 E R M) (YtaeeaniofljmnaaGreatDoor.orM M (d7 E R M))).length=(d5 (d6 E R M) (YtaeeaniofljmnaaGreatDoor.orM M (d7 E R M))).length
 let c:=d5 (d6 E' R' M') (YtaeeaniofljmnaaGreatDoor.orM M' (d7 E' R' M'))
 let d:=d5 (d6 E R M) (YtaeeaniofljmnaaGreatDoor.orM M (d7 E R M))
 let e:=m6 (n2E E' R' M') (n2E E' R' M').length
 let f:=d5 (d6 E' R' M') (arE E' (d7 E' R' M'))
 let g:=m6 (n2E E R M) (n2E E R M).length
 let h:=d5 (d6 E R M) (arE E (d7 E R M))
 let j:=E'.length=E'.length∧R'.length=R'.length∧M'.length=M'.length
 let k:=E.length=E.length∧R.length=R.length∧M.length=M.length
 let l:=d5 (d6 E' R' M') (orR R' (d7 E' R' M'))
 let m:=m6 (n2E E' R' M') x_2
 let n:=d5 (d6 E R M) (orR R (d7 E R M))
 let o:=m6 (n2E E R M) x_1
 let p:=(PLoop.of (b4m (n2M E R M) (n2M E' R' M') (15:Nat))).ann x
 let q:=n2R E' R' M'
 let r:=j6 E R M !=(0:Int)
 let s:=b7 [] d x_3
 let t:=n2R E R M
 let u:=a∧j6 E' R' M'=j6 E' R' M'
 let v:=b7 [] c x_3
 let w:=(↑x_3:Int)
 let y:=(↑x_1:Int)
 let z:=(↑x_2:Int)
 let A:=b∧j6 E R M=j6 E R M
 let B:=(0:Int)
 let C:=(↑h.length:Int)
 let D:=(↑f.length:Int)
 let F:=a89 (n2M E R M) (n2M E' R' M')
 let G:=(↑c.length:Int)
 let H:=(1099511627776:Nat)
 let I:=(0:Nat)
 let J:=w + (1:Int)
 let K:=(↑d.length:Int)
 (decide (w ≥ K)=true→us=us∧∀(us:List Value),(decide (w ≥ G)=true→us=us∧I=I∧I=I∧([]:List Pq).length≤H∧((o9 j5 [] [] !=B)=true→o9 j5 [] []=y7 E R M E' R' M')∧((o9 j5 [] [] !=B)=false→∃(x_4:Nat),(x_4≤(8:Nat)∧x5 F x_4=B)∧p.mu x_4 < p.mu x_3∧(k∧j∧True∧True∧True∧j6 E R M=j6 E R M∧True∧j6 E' R' M'=j6 E' R' M'∧o.length=o.length∧m.length=m.length∧y=y∧z=z∧o9 j5 g e=o9 j5 g e∧o9 j5 t q=o9 j5 t q∧IntKind.i64.wrap J=(↑x_4:Int)∧A∧k∧A∧b∧j6 E R M=j6 E R M∧u∧j∧u∧a∧j6 E' R' M'=j6 E' R' M'∧j6 E R M=j6 E R M∧r=r∧r=r∧false=false∧y=y∧True∧h.length=h.length∧C=C∧false=false∧z=z∧True∧f.length=f.length∧D=D∧false=false∧o.length=o.length∧m.length=m.length∧o9 j5 g e=o9 j5 g e∧o9 j5 g e=o9 j5 g e∧false=false∧True∧n.length=n.length∧True∧l.length=l.length∧o9 j5 t q=o9 j5 t q∧o9 j5 t q=o9 j5 t q∧false=false∧True)∧eqA E.length (i6 E)∧eqA R.length (e8 R)∧eqA M.length (i4 M)∧eqA E'.length (i6 E')∧eqA R'.length (e8 R')∧eqA M'.length (i4 M')∧k∧j∧eqA h.length (i6 h)∧eqA n.length (e8 n)∧eqA d.length (i4 d)∧b∧eqA f.length (i6 f)∧eqA l.length (e8 l)∧eqA c.length (i4 c)∧a∧eqA o.length (e8 o)∧eqA m.length (e8 m)∧True))∧(decide (w ≥ G)=false→(B≤w∧w < G)∧x_3 < c.length∧us=us∧I=I∧v.length=v.length∧([]:List Pq).length≤H∧((o9 j5 [] (mkN (fun(i:Nat)=>b7 B v i) v.length) !=B)=true→o9 j5 [] (mkN (fun(i:Nat)=>b7 B v i) v.length)=y7 E R M E' R' M')∧((o9 j5 [] (mkN (fun(i:Nat)=>b7 B v i) v.length) !=B)=false→∃(x_4:Nat),(x_4≤(8:Nat)∧x5 F x_4=B)∧p.mu x_4 < p.mu x_3∧(k∧j∧True∧True∧True∧j6 E R M=j6 E R M∧True∧j6 E' R' M'=j6 E' R'
 M'∧o.length=o.length∧m.length=m.length∧y=y∧z=z∧o9 j5 g e=o9 j5 g e∧o9 j5 t q=o9 j5 t q∧IntKind.i64.wrap J=(↑x_4:Int)∧A∧k∧A∧b∧j6 E R M=j6 E R M∧u∧j∧u∧a∧j6 E' R' M'=j6 E' R' M'∧j6 E R M=j6 E R M∧r=r∧r=r∧false=false∧y=y∧True∧h.length=h.length∧C=C∧false=false∧z=z∧True∧f.length=f.length∧D=D∧false=false∧o.length=o.length∧m.length=m.length∧o9 j5 g e=o9 j5 g e∧o9 j5 g e=o9 j5 g e∧false=false∧True∧n.length=n.length∧True∧l.length=l.length∧o9 j5 t q=o9 j5 t q∧o9 j5 t q=o9 j5 t q∧false=false∧True)∧eqA E.length (i6 E)∧eqA R.length (e8 R)∧eqA M.length (i4 M)∧eqA E'.length (i6 E')∧eqA R'.length (e8 R')∧eqA M'.length (i4 M')∧k∧j∧eqA h.length (i6 h)∧eqA n.length (e8 n)∧eqA d.length (i4 d)∧b∧eqA f.length (i6 f)∧eqA l.length (e8 l)∧eqA c.length (i4 c)∧a∧eqA o.length (e8 o)∧eqA m.length (e8 m)∧True)))∧(decide (w ≥ K)=false→(B≤w∧w < K)∧x_3 < d.length∧us=us∧∀(us:List Value),(decide (w ≥ G)=true→us=us∧s.length=s.length∧I=I∧(mkN (fun(i:Nat)=>b7 B s i) s.length).length≤H∧((o9 j5 (mkN (fun(i:Nat)=>b7 B s i) s.length) [] !=B)=true→o9 j5 (mkN (fun(i:Nat)=>b7 B s i) s.length) []=y7 E R M E' R' M')∧((o9 j5 (mkN (fun(i:Nat)=>b7 B s i) s.length) [] !=B)=false→∃(x_4:Nat),(x_4≤(8:Nat)∧x5 F x_4=B)∧p.mu x_4 < p.mu x_3∧(k∧j∧True∧True∧True∧j6 E R M=j6 E R M∧True∧j6 E' R' M'=j6 E' R' M'∧o.length=o.length∧m.length=m.length∧y=y∧z=z∧o9 j5 g e=o9 j5 g e∧o9 j5 t q=o9 j5 t q∧IntKind.i64.wrap J=(↑x_4:Int)∧A∧k∧A∧b∧j6 E R M=j6 E R M∧u∧j∧u∧a∧j6 E' R' M'=j6 E' R' M'∧j6 E R M=j6 E R
 M∧r=r∧r=r∧false=false∧y=y∧True∧h.length=h.length∧C=C∧false=false∧z=z∧True∧f.length=f.length∧D=D∧false=false∧o.length=o.length∧m.length=m.length∧o9 j5 g e=o9 j5 g e∧o9 j5 g e=o9 j5 g e∧false=false∧True∧n.length=n.length∧True∧l.length=l.length∧o9 j5 t q=o9 j5 t q∧o9 j5 t q=o9 j5 t q∧false=false∧True)∧eqA E.length (i6 E)∧eqA R.length (e8 R)∧eqA M.length (i4 M)∧eqA E'.length (i6 E')∧eqA R'.length (e8 R')∧eqA M'.length (i4 M')∧k∧j∧eqA h.length (i6 h)∧eqA n.length (e8 n)∧eqA d.length (i4 d)∧b∧eqA f.length (i6 f)∧eqA l.length (e8 l)∧eqA c.length (i4 c)∧a∧eqA o.length (e8 o)∧eqA m.length (e8 m)∧True))∧(decide (w ≥ G)=false→(B≤w∧w < G)∧x_3 < c.length∧us=us∧s.length=s.length∧v.length=v.length∧(mkN (fun(i:Nat)=>b7 B s i) s.length).length≤H∧((o9 j5 (mkN (fun(i:Nat)=>b7 B s i) s.length) (mkN (fun(i:Nat)=>b7 B v i) v.length) !=B)=true→o9 j5 (mkN (fun(i:Nat)=>b7 B s i) s.length) (mkN (fun(i:Nat)=>b7 B v i) v.length)=y7 E R M E' R' M')∧((o9 j5 (mkN (fun(i:Nat)=>b7 B s i) s.length) (mkN (fun(i:Nat)=>b7 B v i) v.length) !=B)=false→∃(x_4:Nat),(x_4≤(8:Nat)∧x5 F x_4=B)∧p.mu x_4 < p.mu x_3∧(k∧j∧True∧True∧True∧j6 E R M=j6 E R M∧True∧j6 E' R' M'=j6 E' R' M'∧o.length=o.length∧m.length=m.length∧y=y∧z=z∧o9 j5 g e=o9 j5 g e∧o9 j5 t q=o9 j5 t q∧IntKind.i64.wrap J=(↑x_4:Int)∧A∧k∧A∧b∧j6 E R M=j6 E R M∧u∧j∧u∧a∧j6 E' R' M'=j6 E' R' M'∧j6 E R M=j6 E R M∧r=r∧r=r∧false=false∧y=y∧True∧h.length=h.length∧C=C∧false=false∧z=z∧True∧f.length=f.length∧D=D∧false=false∧o.length=o.length∧m.length=m.length∧o9 j5 g e=o9 j5
 g e∧o9 j5 g e=o9 j5 g e∧false=false∧True∧n.length=n.length∧True∧l.length=l.length∧o9 j5 t q=o9 j5 t q∧o9 j5 t q=o9 j5 t q∧false=false∧True)∧eqA E.length (i6 E)∧eqA R.length (e8 R)∧eqA M.length (i4 M)∧eqA E'.length (i6 E')∧eqA R'.length (e8 R')∧eqA M'.length (i4 M')∧k∧j∧eqA h.length (i6 h)∧eqA n.length (e8 n)∧eqA d.length (i4 d)∧b∧eqA f.length (i6 f)∧eqA l.length (e8 l)∧eqA c.length (i4 c)∧a∧eqA o.length (e8 o)∧eqA m.length (e8 m)∧True)))
theorem k43 (E:List Ev) (R:List Int) (M:List (List Int)) (E':List Ev) (R':List Int) (M':List (List Int)) (x:PUnit) (x_1 x_2 x_3:Nat) (us:List Value) (hA:∀ r∈(n2M E R M),r.length≤1099511627776) (hc:y7 E R M E' R' M'=x5 (a89 (n2M E R M) (n2M E' R' M')) 8) (h3:x_3 < 8) (h0:x5 (a89 (n2M E R M) (n2M E' R' M')) x_3=0):c36 E R M E' R' M' x x_1 x_2 x_3 us:=by
 unfold c36
 have e1:d5 (d6 E R M) (orM M (d7 E R M))=(n2M E R M):=rfl
 have e2:d5 (d6 E' R' M') (orM M' (d7 E' R' M'))=(n2M E' R' M'):=rfl
 simp only[eq_self,true_and,and_true,z0o,imp_self,o6,o8,p7,i7,i9,PLoop.of,s8,AV.len,j4,z0u,l4,l5,l6,m8,m9,n5,b4m,e1,e2]
 have hz:([]:List Pq).length≤1099511627776:=by simp
 have hz2:([]:List Int).length≤1099511627776:=by simp
 have hrow:x_3 < (n2M E R M).length→(b7 [] (n2M E R M) x_3).length≤1099511627776:=fun h=>hA _ (by rw[m7 [] _ _ h]; exact z1v h)
 have fin:∀ l m:List Int,l=t8 (n2M E R M) x_3→m=t8 (n2M E' R' M') x_3→((o9 j5 l m != 0)=true→o9 j5 l m=y7 E R M E' R' M')∧((o9 j5 l m != 0)=false→∃ x_4,(x_4≤8∧x5 (a89 (n2M E R M) (n2M E' R' M')) x_4=0)∧8 - x_4 < 8 - x_3∧IntKind.i64.wrap ((x_3:Int) + 1)=(x_4:Int)):=fun l m hl hm=>by
  have e:o9 j5 l m=a89 (n2M E R M) (n2M E' R' M') x_3:=by rw[hl,hm]; rfl
  rw[e,hc]
  refine⟨fun hd=>?_,fun hd=>⟨x_3 + 1,⟨by omega,b4c h0 (by simpa using hd)⟩,by omega,wrS (n:=8) h3 (by omega)⟩⟩
  rw[b9w h0 (by simpa using hd) h3]
 have out1:decide ((x_3:Int) ≥ (n2M E R M).length)=true→([]:List Int)=t8 (n2M E R M) x_3:=fun h=>by
  have:=z0e h
  exact(nthD_out [] (by omega)).symm
 have out2:decide ((x_3:Int) ≥ (n2M E' R' M').length)=true→([]:List Int)=t8 (n2M E' R' M') x_3:=fun h=>by
  have:=z0e h
  exact(nthD_out [] (by omega)).symm
 refine⟨fun h1=>⟨fun h2=>⟨hz,fin _ _ (out1 h1) (out2 h2)⟩,fun h2=>?_⟩,fun h1=>?_⟩
 ·have:=z0i h2
  exact⟨⟨by omega,by omega⟩,by omega,hz2,fin _ _ (out1 h1) rfl⟩
 ·have:=z0i h1
  refine⟨⟨by omega,by omega⟩,by omega,fun h2=>⟨hrow (by omega),fin _ _ rfl (out2 h2)⟩,fun h2=>?_⟩
  have:=z0i h2
  exact⟨⟨by omega,by omega⟩,by omega,hrow (by omega),fin _ _ rfl rfl⟩
theorem a7p (X:List Ev):∀ i,(m6 X i).length=i * 9:=by
 intro i
 induction i with
 | zero=>rfl
 | succ i ih=>rw[m6,z1d,ih]; show i * 9 + 9=_; omega
theorem c43 {X:List Ev} {i:Nat}:∀ j,j < (m6 X (i + 1)).length→(bif Nat.blt j (m6 X i).length then b7 0 (m6 X i) j else b7 0 (a3c (b7 e0 X i)) (j - (m6 X i).length))=b7 0 (m6 X (i + 1)) j:=fun j hj=>by
 have e:m6 X (i + 1)=m6 X i ++ a3c (b7 e0 X i):=by rw[m6,evA,z0s]
 rw[e]
 cases h:Nat.blt j (m6 X i).length
 ·have:¬ j < (m6 X i).length:=fun h'=>by rw[← z0x] at h'; rw[h] at h'; cases h'
  rw[z0l,c4p 0 (by omega)]
 ·rw[z0f,a73 0 (by rwa [z0x] at h)]
def q43D (E:List Ev) (R:List Int) (M:List (List Int)) (E':List Ev) (R':List Int) (M':List (List Int)):Prop:=s4 (({ calls:=[e1m (nm43 E R M E' R' M'),kInt (nm43 E R M E' R' M'),kNmL []],inl:=[(101,{ fn:=Tryz.f101 })],loops:=[(0,.of (lCt (n2E E R M) 11 9 16)),(2,.of (lCt (n2E E' R' M') 12 10 17)),(4,.of (b4m (n2M E R M) (n2M E' R' M') 15))],takes:=[(1000027,fun _ _=>[.mv 1,.mv 3,.mv 2,.mv 1,.mv 4,.mv 2,.mv 0,.mv 8,.mv 0,.mv 1,.mv 3,.mv 4,.mv 2,.mv 5,.mv 6,.mv 7,.mv 0,.mv 8,.mv 0,.mv 1,.mv 3,.mv 2,.mv 4,.mv 5,.mv 6,.mv 7,.mv 1,.mv 4,.mv 2,.mv 0,.mv 8,.mv 0,.mv 1,.mv 4,.mv 2,.mv 3,.mv 5,.mv 6,.mv 7,.mv 1,.mv 3,.mv 4,.mv 0,.mv 8,.mv 0,.mv 1,.mv 2,.mv 3,.mv 4,.mv 5,.mv 6,.mv 7,.mv 0,.mv 8,.mv 0,.mv 1,.mv 2,.mv 4,.mv 3,.mv 5,.mv 6,.mv 7])] }:Kit)).tab Tryz.f43 [grV E R M,.agg [.sl 3 E'.length,.sl 4 R'.length,.sl 5 M'.length]] (grM E R M ++ [.arr E'.length (i6 E'),.arr R'.length (e8 R'),.arr M'.length (i4 M')]) (m4 (.i .i64 (y7 E R M E' R' M')))
theorem d8t (E:List Ev) (R:List Int) (M:List (List Int)) (E':List Ev) (R':List Int) (M':List (List Int)):q43D E R M E' R' M'=(
 let a:=(d5 (d6 E' R' M') (arE E' (d7 E' R' M'))).length=(d5 (d6 E' R' M') (arE E' (d7 E' R' M'))).length∧(d5 (d6 E' R' M') (orR R' (d7 E' R' M'))).length=(d5 (d6 E' R' M') (orR R' (d7 E' R' M'))).length∧(d5 (d6 E' R' M') (YtaeeaniofljmnaaGreatDoor.orM M' (d7 E' R' M'))).length=(d5 (d6 E' R' M') (YtaeeaniofljmnaaGreatDoor.orM M' (d7 E' R' M'))).length
 let b:=(d5 (d6 E R M) (arE E (d7 E R M))).length=(d5 (d6 E R M) (arE E (d7 E R M))).length∧(d5 (d6 E R M) (orR R (d7 E R M))).length=(d5 (d6 E R M) (orR R (d7 E R M))).length∧(d5 (d6 E R M) (YtaeeaniofljmnaaGreatDoor.orM M (d7 E R M))).length=(d5 (d6 E R M) (YtaeeaniofljmnaaGreatDoor.orM M (d7 E R M))).length
 let c:=d5 (d6 E R M) (arE E (d7 E R M))
 let d:=d5 (d6 E' R' M') (arE E' (d7 E' R' M'))
 let e:=n2E E' R' M'
 let f:=n2E E R M
 let g:=E'.length=E'.length∧R'.length=R'.length∧M'.length=M'.length
 let h:=E.length=E.length∧R.length=R.length∧M.length=M.length
 let k:=d5 (d6 E' R' M') (orR R' (d7 E' R' M'))
 let l:=d5 (d6 E R M) (orR R (d7 E R M))
 let m:=(0:Int)
 let n:=d5 (d6 E' R' M') (YtaeeaniofljmnaaGreatDoor.orM M' (d7 E' R' M'))
 let o:=d5 (d6 E R M) (YtaeeaniofljmnaaGreatDoor.orM M (d7 E R M))
 let p:=(1099511627776:Nat)
 let q:=j6 E R M !=m
 let s:=a∧j6 E' R' M'=j6 E' R' M'
 let t:=b∧j6 E R M=j6 E R M
 let u:=(↑c.length:Int)
 let v:=(0:Nat)
 let w:=PLoop.of (lCt e (12:Nat) (10:Nat) (17:Nat))
 let y:=PLoop.of (lCt f (11:Nat) (9:Nat) (16:Nat))
 let z:=o9 j5 (m6 f f.length) (m6 e e.length) !=m
 let A:=o9 j5 (n2R E R M) (n2R E' R' M') !=m
 let B:=j6 E R M !=m || j6 E' R' M' !=m
 let C:=(↑d.length:Int)
 let D:=a89 (n2M E R M) (n2M E' R' M')
 let F:=(8:Nat)
 let G:=(9223372036854775807:Nat)
 E.length=E.length∧R.length=R.length∧M.length=M.length∧nE E∧nI R∧nR M∧(E.length≤p∧(M.length≤F→∀(r:List Int),List.Mem r M→r.length≤p))∧E'.length=E'.length∧R'.length=R'.length∧M'.length=M'.length∧mkN (fun(j:Nat)=>b7 e0 E' j) E'.length=E'∧mkN (b7 m R') R'.length=R'∧mkN (fun(j:Nat)=>mkN (fun(i:Nat)=>b7 m (b7 [] M' j) i) (b7 [] M' j).length) M'.length=M'∧(E'.length≤p∧(M'.length≤F→∀(r:List Int),List.Mem r M'→r.length≤p))∧(B=true→((j6 E R M ==m)=true→(1:Int)=y7 E R M E' R' M')∧((j6 E R M ==m)=false→((j6 E' R' M' ==m)=true→(-1:Int)=y7 E R M E' R' M')∧((j6 E' R' M' ==m)=false→m=y7 E R M E' R' M')))∧(B=false→∃(x:PUnit),(∃(x:Nat),x≤f.length∧(m=(↑x:Int)∧v=(m6 f x).length∧True)∧(v=(m6 f x).length∧(m6 f x).length=v∧True)∧True)∧∀(x_1:Nat),x_1≤f.length→(decide ((↑x_1:Int) < u)=true→(m≤(↑x_1:Int)∧(↑x_1:Int) < u)∧x_1 < c.length∧(m6 f x_1).length=(m6 f x_1).length∧(AV.is (a3c (b7 e0 c x_1))).len=(AV.is (a3c (b7 e0 c x_1))).len∧((m6 f x_1).length + (AV.is (a3c (b7 e0 c x_1))).len) * F≤(140737488355328:Nat)∧(m6 f x_1).length + (AV.is (a3c (b7 e0 c x_1))).len≤G∧∃(x_2:Nat),x_2≤f.length∧(y.ann x).mu x_2 < (y.ann x).mu x_1∧(h∧g∧True∧True∧m=m∧True∧j6 E R M=j6 E R M∧True∧j6 E' R' M'=j6 E' R' M'∧(m6 f x_1).length + (AV.is (a3c (b7 e0 c x_1))).len=(m6 f x_2).length∧v=v∧IntKind.i64.wrap ((↑x_1:Int) + (1:Int))=(↑x_2:Int)∧t∧h∧t∧b∧j6 E R M=j6 E R M∧s∧g∧s∧a∧j6 E' R' M'=j6 E' R' M'∧j6 E R M=j6 E R M∧q=q∧q=q∧false=false∧v=v∧True)∧eqA E.length (i6 E)∧eqA R.length (e8 R)∧eqA M.length (i4 M)∧eqA E'.length (i6
 E')∧eqA R'.length (e8 R')∧eqA M'.length (i4 M')∧h∧g∧eqA c.length (i6 c)∧eqA l.length (e8 l)∧eqA o.length (i4 o)∧b∧eqA d.length (i6 d)∧eqA k.length (e8 k)∧eqA n.length (i4 n)∧a∧((m6 f x_1).length + (AV.is (a3c (b7 e0 c x_1))).len=(m6 f x_2).length∧(∀(j:Nat),j < (m6 f x_2).length→(bif j.blt (m6 f x_1).length then b7 m (m6 f x_1) j else b7 m (a3c (b7 e0 c x_1)) (j - (m6 f x_1).length))=b7 m (m6 f x_2) j)∧True)∧eqA v [Col.any]∧True)∧(decide ((↑x_1:Int) < u)=false→∃(x:PUnit),(∃(x:Nat),x≤e.length∧(m=(↑x:Int)∧v=(m6 e x).length∧True)∧(v=(m6 e x).length∧(m6 e x).length=v∧True)∧True)∧∀(x_2:Nat),x_2≤e.length→(decide ((↑x_2:Int) < C)=true→(m≤(↑x_2:Int)∧(↑x_2:Int) < C)∧x_2 < d.length∧(m6 e x_2).length=(m6 e x_2).length∧(AV.is (a3c (b7 e0 d x_2))).len=(AV.is (a3c (b7 e0 d x_2))).len∧((m6 e x_2).length + (AV.is (a3c (b7 e0 d x_2))).len) * F≤(140737488355328:Nat)∧(m6 e x_2).length + (AV.is (a3c (b7 e0 d x_2))).len≤G∧∃(x_3:Nat),x_3≤e.length∧(w.ann x).mu x_3 < (w.ann x).mu x_2∧(h∧g∧True∧True∧m=m∧True∧j6 E R M=j6 E R M∧True∧j6 E' R' M'=j6 E' R' M'∧(m6 f x_1).length=(m6 f x_1).length∧(m6 e x_2).length + (AV.is (a3c (b7 e0 d x_2))).len=(m6 e x_3).length∧(↑x_1:Int)=(↑x_1:Int)∧IntKind.i64.wrap ((↑x_2:Int) + (1:Int))=(↑x_3:Int)∧t∧h∧t∧b∧j6 E R M=j6 E R M∧s∧g∧s∧a∧j6 E' R' M'=j6 E' R' M'∧j6 E R M=j6 E R M∧q=q∧q=q∧false=false∧(↑x_1:Int)=(↑x_1:Int)∧True∧c.length=c.length∧u=u∧false=false∧True)∧eqA E.length (i6 E)∧eqA R.length (e8 R)∧eqA M.length (i4 M)∧eqA E'.length (i6 E')∧eqA R'.length (e8 R')∧eqA
 M'.length (i4 M')∧h∧g∧eqA c.length (i6 c)∧eqA l.length (e8 l)∧eqA o.length (i4 o)∧b∧eqA d.length (i6 d)∧eqA k.length (e8 k)∧eqA n.length (i4 n)∧a∧eqA (m6 f x_1).length (e8 (m6 f x_1))∧((m6 e x_2).length + (AV.is (a3c (b7 e0 d x_2))).len=(m6 e x_3).length∧(∀(j:Nat),j < (m6 e x_3).length→(bif j.blt (m6 e x_2).length then b7 m (m6 e x_2) j else b7 m (a3c (b7 e0 d x_2)) (j - (m6 e x_2).length))=b7 m (m6 e x_3) j)∧True)∧True)∧(decide ((↑x_2:Int) < C)=false→(m6 f x_1).length=(m6 f x_1).length∧mkN (b7 m (m6 f x_1)) (m6 f x_1).length=m6 f f.length∧(m6 e x_2).length=(m6 e x_2).length∧mkN (b7 m (m6 e x_2)) (m6 e x_2).length=m6 e e.length∧(m6 f f.length).length≤p∧(z=true→o9 j5 (m6 f f.length) (m6 e e.length)=y7 E R M E' R' M')∧(z=false→l.length=l.length∧mkN (b7 m l) l.length=n2R E R M∧k.length=k.length∧mkN (b7 m k) k.length=n2R E' R' M'∧(n2R E R M).length≤p∧(A=true→o9 j5 (n2R E R M) (n2R E' R' M')=y7 E R M E' R' M')∧(A=false→∃(x:PUnit),(∃(x:Nat),(x≤F∧x5 D x=m)∧(m=(↑x:Int)∧True)∧True)∧∀(x_3:Nat),x_3≤F∧x5 D x_3=m→(decide ((↑x_3:Int) < (8:Int))=true→((∀(us:List Value),c36 E R M E' R' M' x x_1 x_2 x_3 us)∧∀(us:List Value),c36 E R M E' R' M' x x_1 x_2 x_3 us)∧(∀(us:List Value),c36 E R M E' R' M' x x_1 x_2 x_3 us)∧(∀(us:List Value),c36 E R M E' R' M' x x_1 x_2 x_3 us)∧∀(us:List Value),c36 E R M E' R' M' x x_1 x_2 x_3 us)∧(decide ((↑x_3:Int) < (8:Int))=false→m=y7 E R M E' R' M'))))))):=by kernel_rfl
theorem v43 (E:List Ev) (R:List Int) (M:List (List Int)) (E':List Ev) (R':List Int) (M':List (List Int)) (h:SzG E M) (h':SzG E' M'):q43D E R M E' R' M':=by
 rw[d8t]
 obtain⟨a1,a2,a3,a4⟩:=c4m (R:=R) h
 obtain⟨b1,b2,b3,b4⟩:=c4m (R:=R') h'
 have z1:=c4o (R:=R) h
 have z2:=c4o (R:=R') h'
 rw[← a2,← a3,← a4] at z1
 rw[← b2,← b3,← b4] at z2
 have n1:(n2E E R M).length≤64:=by
  unfold n2E
  cases hk:d6 E R M
  ·simp[d5]
  ·simp only[d6,z0d] at hk
   have:=(vg hk.1).n
   simp only[d5,z0f,arE,z2k,d7,a4n]
   exact this
 have n2:(n2E E' R' M').length≤64:=by
  unfold n2E
  cases hk:d6 E' R' M'
  ·simp[d5]
  ·simp only[d6,z0d] at hk
   have:=(vg hk.1).n
   simp only[d5,z0f,arE,z2k,d7,a4n]
   exact this
 have e1:d5 (d6 E R M) (arE E (d7 E R M))=n2E E R M:=rfl
 have e2:d5 (d6 E' R' M') (arE E' (d7 E' R' M'))=n2E E' R' M':=rfl
 have e3:d5 (d6 E R M) (orR R (d7 E R M))=n2R E R M:=rfl
 have e4:d5 (d6 E' R' M') (orR R' (d7 E' R' M'))=n2R E' R' M':=rfl
 simp only[eq_self,true_and,and_true,z0o,imp_self,o6,o8,p7,i7,i9,PLoop.of,s8,AV.len,j4,z0u,l4,l5,l6,m8,m9,n5,lCt,b4m,e1,e2,e3,e4]
 have hA:∀ r∈(n2M E R M),r.length≤1099511627776:=fun r hr=>z1.2.2.2 r hr
 have h9:∀ e:Ev,(a3c e).length=9:=fun _=>rfl
 simp only[h9]
 refine⟨⟨h.1,h.2⟩,⟨h'.1,h'.2⟩,fun hc=>⟨fun h1=>?_,fun h1=>⟨fun h2=>?_,fun h2=>?_⟩⟩,fun hc=>⟨(),⟨0,by simp[m6]⟩,fun i hi=>⟨fun hli=>?_,fun hli=>?_⟩⟩⟩
 ·simp only[y7,b80,hc,h1,z0f]
 ·simp only[y7,b80,hc,h1,h2,z0f,z0l]
 ·simp only[y7,b80,hc,h1,h2,z0f,z0l]
 ·have hi2:i < (n2E E R M).length:=by have:=z0e hli; omega
  have l1:=a7p (n2E E R M) i
  have l2:=a7p (n2E E R M) (i + 1)
  exact⟨⟨by omega,by omega⟩,hi2,by omega,by omega,i + 1,by omega,by omega,⟨by omega,wrS (n:=(n2E E R M).length) hi2 (by omega)⟩,by omega,c43⟩
 have hi2:i=(n2E E R M).length:=by have:=z0i hli; omega
 subst hi2
 refine⟨(),⟨0,by simp[m6]⟩,fun k hk=>⟨fun hlk=>?_,fun hlk=>?_⟩⟩
 ·have hk2:k < (n2E E' R' M').length:=by have:=z0e hlk; omega
  have l1:=a7p (n2E E' R' M') k
  have l2:=a7p (n2E E' R' M') (k + 1)
  exact⟨⟨by omega,by omega⟩,hk2,by omega,by omega,k + 1,by omega,by omega,⟨by omega,wrS (n:=(n2E E' R' M').length) hk2 (by omega)⟩,by omega,c43⟩
 have hk2:k=(n2E E' R' M').length:=by have:=z0i hlk; omega
 subst hk2
 have l1:=a7p (n2E E R M) (n2E E R M).length
 refine⟨rfl,rfl,by omega,fun hd=>?_,fun hd=>⟨z1.2.1,fun he=>?_,fun he=>⟨(),⟨0,⟨by omega,rfl⟩,rfl⟩,fun j hj=>⟨fun hlj=>?_,fun hlj=>?_⟩⟩⟩⟩
 ·simp only[y7,b80,hc,hd,z0f,z0l]
 ·simp only[y7,b80,hc,hd,he,z0f,z0l]
 ·have hG:y7 E R M E' R' M'=x5 (a89 (n2M E R M) (n2M E' R' M')) 8:=by simp only[y7,b80,hc,hd,he,z0l]
  have hj2:j < 8:=by have:=z0e hlj; omega
  have hk:=fun us=>k43 E R M E' R' M' () (n2E E R M).length (n2E E' R' M').length j us hA hG hj2 hj.2
  simp only[hk,z0o,and_self]
 ·have hG:y7 E R M E' R' M'=x5 (a89 (n2M E R M) (n2M E' R' M')) 8:=by simp only[y7,b80,hc,hd,he,z0l]
  have hj2:j=8:=by have:=z0i hlj; omega
  rw[hG,← hj2]
  exact hj.2.symm
theorem n43 (nm:List (Option AV)):CallOk Tryz.prog [] 43 (q6 EL none nm [PG,PG] d0f):=z4 Tryz.func43 fo43 fun av pre rv h=>by
 unfold d0f at h; split at h <;> cases h
 exact⟨⟨rfl,fun t a e=>by cases e <;> exact z0h _ _⟩,fun hp=>⟨_,v43 _ _ _ _ _ _ (hp _ (.head _)) (hp _ (.tail _ (.head _))),rfl,(o5 (n21 _) (o5 (n74 _) (o5 (n100 _) v4))),(a3y e1h v5)⟩⟩
end Go.Proofs.YtaeeaniofljmnaaGreatDoor

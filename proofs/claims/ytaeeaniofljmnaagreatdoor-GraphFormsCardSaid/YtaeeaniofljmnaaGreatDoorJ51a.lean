/-
  A part of the proof (J51a).
-/
import Derived.Test.YtaeeaniofljmnaaGreatDoorJ46a
namespace Go.Proofs.YtaeeaniofljmnaaGreatDoor
set_option linter.unusedSimpArgs false
set_option linter.unusedVariables false
open Go Go.Proofs.YtaeeaniofljmnaaGreatDoor.Sx
set_option maxRecDepth 100000
theorem c7w {E:List Ev} {R:List Int} {M:List (List Int)} (h:SzG E M):(noE E R M).length≤1099511627776∧(noR E R M).length≤1099511627776∧(noM E R M).length≤1099511627776∧∀ r:List Int,List.Mem r (noM E R M)→r.length≤1099511627776:=by
 unfold noE noR noM
 cases hk:o7 E R M
 ·simp only[f8,z0l]
  exact⟨by simp,by simp,by simp,fun r h=>nomatch h⟩
 ·simp only[o7,z0d] at hk
  obtain⟨hG,hN⟩:=a06 hk.1 h
  obtain⟨hM,hR⟩:=a1a hk.1
  simp only[f8,z0f,arE,arR,arM,z2s,t5,a2x]
  refine⟨by omega,by omega,by omega,fun r hr=>?_⟩
  obtain⟨q,hq,rfl⟩:=z2b.1 (show r∈_ from hr)
  rw[z2s]
  exact h.2 hM q hq
theorem or3 (a b c:Int):orF (mkN (d9 [a,b,c]) 3)=orF [a,b,c]:=rfl
theorem fo42:p8 Tryz.prog 42:=⟨Tryz.f42,Tryz.func42,by kernel_rfl,by kernel_rfl⟩
def q42D (E:List Ev) (R:List Int) (M:List (List Int)) (E':List Ev) (R':List Int) (M':List (List Int)):Prop:=p7 (({ g:=true,calls:=[c7c (c7v E R M E' R' M'),kCmF (c7v E R M E' R' M'),kCmL (c7v E R M E' R' M'),kCmM (c7v E R M E' R' M'),kOr (c7v E R M E' R' M')] }:Kit)).tab Tryz.f42 [b24 E R M,e0a E' R' M'] (grT2 E R M E' R' M') (l4 (.i .i64 (a3g E R M E' R' M')))
theorem d7k (E:List Ev) (R:List Int) (M:List (List Int)) (E':List Ev) (R':List Int) (M':List (List Int)):q42D E R M E' R' M'=(
 let a:=f8 (o7 E' R' M') (arM M' (t5 E' R' M'))
 let b:=(1099511627776:Nat)
 let c:=f8 (o7 E R M) (arM M (t5 E R M))
 let d:=f8 (o7 E' R' M') (arE E' (t5 E' R' M'))
 let e:=f8 (o7 E' R' M') (arR R' (t5 E' R' M'))
 let f:=mkN (d9 [w7 a5q (noE E R M) (noE E' R' M'),w7 m7 (noR E R M) (noR E' R' M'),b3f (noM E R M) (noM E' R' M')]) (3:Nat)
 let g:=f8 (o7 E R M) (arE E (t5 E R M))
 let h:=f8 (o7 E R M) (arR R (t5 E R M))
 let k:=(0:Int)
 let l:=a07 E R M !=k && a07 E' R' M' !=k
 some tbl=some tbl∧E.length=E.length∧R.length=R.length∧M.length=M.length∧nE E∧nI R∧nR M∧(E.length≤b∧(M.length≤(8:Nat)→∀(r:List Int),List.Mem r M→r.length≤b))∧some (n7 [] tbl)=some tbl∧E'.length=E'.length∧R'.length=R'.length∧M'.length=M'.length∧mkN (fun(j:Nat)=>b6 e0 E' j) E'.length=E'∧mkN (b6 k R') R'.length=R'∧mkN (fun(j:Nat)=>mkN (fun(i:Nat)=>b6 k (b6 [] M' j) i) (b6 [] M' j).length) M'.length=M'∧(E'.length≤b∧(M'.length≤(8:Nat)→∀(r:List Int),List.Mem r M'→r.length≤b))∧(l=true→k=a3g E R M E' R' M')∧(l=false→((a07 E R M !=k)=true→(-1:Int)=a3g E R M E' R' M')∧((a07 E R M !=k)=false→((a07 E' R' M' !=k)=true→(1:Int)=a3g E R M E' R' M')∧((a07 E' R' M' !=k)=false→g.length=g.length∧mkN (fun(j:Nat)=>b6 e0 g j) g.length=noE E R M∧d.length=d.length∧mkN (fun(j:Nat)=>b6 e0 d j) d.length=noE E' R' M'∧(noE E R M).length≤b∧h.length=h.length∧mkN (b6 k h) h.length=noR E R M∧e.length=e.length∧mkN (b6 k e) e.length=noR E' R' M'∧(noR E R M).length≤b∧c.length=c.length∧mkN (fun(j:Nat)=>mkN (fun(i:Nat)=>b6 k (b6 [] c j) i) (b6 [] c j).length) c.length=noM E R M∧a.length=a.length∧mkN (fun(j:Nat)=>mkN (fun(i:Nat)=>b6 k (b6 [] a j) i) (b6 [] a j).length) a.length=noM E' R' M'∧(((noM E R M).length≤b∧(noM E' R' M').length≤b)∧∀(r:List Int),List.Mem r (noM E R M)→r.length≤b)∧(3:Nat)=(3:Nat)∧f.length≤b∧orF f=a3g E R M E' R' M')))):=by kernel_rfl
theorem v42 (E:List Ev) (R:List Int) (M:List (List Int)) (E':List Ev) (R':List Int) (M':List (List Int)) (h:SzG E M) (h':SzG E' M'):q42D E R M E' R' M':=by
 rw[d7k]
 simp only[eq_self,true_and,and_true,z0n,imp_self,l9,m6,n5,g7,g8,PLoop.of,q6,AV.len,g9,z0s,i9,j4,j5,l5,l6,l7]
 have h1:=c7w (R:=R) h
 have h2:=c7w (R:=R') h'
 refine⟨⟨h.1,h.2⟩,⟨h'.1,h'.2⟩,fun hc=>?_,fun hc=>⟨fun hd=>?_,fun hd=>⟨fun he=>?_,fun he=>?_⟩⟩⟩
 ·simp only[z0d] at hc
  simp[a3g,hc]
 ·rw[hd,z1h] at hc
  simp[a3g,hd,hc]
 ·simp[a3g,hd,he]
 refine⟨rfl,rfl,h1.1,rfl,rfl,h1.2.1,rfl,rfl,⟨⟨h1.2.2.1,h2.2.2.1⟩,h1.2.2.2⟩,by omega,?_⟩
 rw[or3]
 simp[a3g,hd,he]
theorem n42 (nm:List (Option AV)):CallOk Tryz.prog GL 42 (o5 EL gbT nm [PG,PG] c95):=a5j Tryz.func42 fo42 fun av pre rv h=>by
 unfold c95 at h; split at h <;> cases h
 exact⟨⟨rfl,fun t a e=>by cases e <;> exact z0h _ _⟩,fun hp=>⟨_,v42 _ _ _ _ _ _ (hp _ (.head _)) (hp _ (.tail _ (.head _))),rfl,(m9 (n20 _) (m9 (a1o (n97 _)) (m9 (a1o (n99 _)) (m9 (a1o (n92 _)) (m9 (a1o (n96 _)) t9))))),u4⟩⟩
def b21 (l m:List Pq):Nat→Bool
 | 0=>true
 | j + 1=>b21 l m j && ((b6 (0,0) l j).1 == (b6 (0,0) m j).1 && (b6 (0,0) l j).2 == (b6 (0,0) m j).2)
def a60 (N:Int) (l:List Pq) (N':Int) (m:List Pq):Bool:=!(N != N' || (l.length:Int) != (m.length:Int)) && b21 l m l.length
def d0z (l m:List Pq) (t:Nat):LAnn:=q6 l.length t (fun j=>b21 l m j=true) (fun _=>[]) []
def d6j:SpP:=fun | [.lf (.r N l),.lf (.r N' m)]=>some ([L9 l],plB (a60 N l N' m)) | _=>none
def kPrs (nm:List (Option AV)):Nat × (List MBlk→List SV→Option AR):=(45,o5 EL none nm [.lf .r,.lf .r] d6j)
def sAgr:SpP:=fun | [.lf (.r N l),.lf (.i e),.lf (.r N' m),.lf (.i e')]=>some ([L9 l],plB (a60 N l N' m && e == e')) | _=>none
def a68 (M:List (List Int)) (x:Int):Nat→Int
 | 0=>x
 | j + 1=>a68 M x j + (q8 M j).length
def b3o (E:List Ev) (R:List Int) (M:List (List Int)):Nat→Int:=a68 M ((E.length:Int) + R.length + M.length)
def a7l (M:List (List Int)):Nat:=if M.length < 100 then M.length else 100
def c4g (E:List Ev) (R:List Int) (M:List (List Int)) (n:Int):Bool:=decide (b3o E R M (a7l M)≤n)
def d0x (E:List Ev) (R:List Int) (M:List (List Int)) (t s:Nat):LAnn:={ X:=Nat,inv:=fun j=>j≤a7l M,slots:=fun j=>[(t,.i .i64 (j:Int)),(s,.i .i64 (b3o E R M j))],mem:=fun _=>[],mu:=fun j=>a7l M - j,kill:=[] }
def SzF (E:List Ev) (R:List Int) (M:List (List Int)):Prop:=(E.length≤17592186044416∧R.length≤17592186044416∧M.length≤17592186044416)∧∀ r∈M,r.length≤17592186044416
def d6d:SpP:=fun | [.ag [.es E,.is R,.rs M],.lf (.i n)]=>some ([SzF E R M],plB (c4g E R M n)) | _=>none
def kFew (nm:List (Option AV)):Nat × (List MBlk→List SV→Option AR):=(9,o5 EL none nm [PG,.lf .i] d6d)
def exE:List Ev:=[⟨0,0,2,0,-1,-1,2,0,0⟩,⟨0,1,2,1,-1,-1,2,0,0⟩,⟨1,0,1,1,-1,-1,2,0,0⟩,⟨1,1,1,0,-1,-1,2,0,0⟩]
def exR:List Int:=[-2,-2,1,-1]
def exM:List (List Int):=[[0],[1]]
def ev4 (a x k o:Int):Ev:=⟨a,x,k,o,-1,-1,2,0,0⟩
def d6b:SpP:=fun | [.lf (.i a),.lf (.i x),.lf (.i k),.lf (.i o)]=>some ([],.rv (.pl (a67 (ev4 a x k o)))) | _=>none
def kEv4 (nm:List (Option AV)):Nat × (List MBlk→List SV→Option AR):=(102,o5 EL none nm [.lf .i,.lf .i,.lf .i,.lf .i] d6b)
def d6c:SpG:=fun | []=>some ([],.gr none exE exR exM) | _=>none
def kExa (nm:List (Option AV)):Nat × (List MBlk→List SV→Option AR):=(44,o5 EL none nm [] d6c)
theorem c4d {l m:List Pq} {k:Nat} (h:b21 l m k=true):∀ d j,j + d=k→b21 l m j=true:=by
 intro d
 induction d generalizing k with
 | zero=>intro j e; subst e; exact h
 | succ d ih =>
  intro j e
  obtain⟨k,rfl⟩:∃ k',k=k' + 1:=⟨j + d,by omega⟩
  simp only[b21,z0d] at h
  exact ih h.1 j (by omega)
theorem c74 {M:List (List Int)} (hS:∀ r∈M,r.length≤17592186044416) (x:Int):∀ j,j≤M.length→x≤a68 M x j∧a68 M x j≤x + j * 17592186044416:=by
 intro j
 induction j with
 | zero=>intro _; simp[a68]
 | succ j ih =>
  intro h
  have h1:=ih (by omega)
  have h2:(q8 M j).length≤17592186044416:=hS _ (by unfold q8; rw[o6 [] M _ (show j < M.length by omega)]; exact z1r _)
  rw[a68]
  omega
theorem c39 (M:List (List Int)) (x:Int):∀ j,x≤a68 M x j:=fun j=>by
 induction j with
 | zero=>simp[a68]
 | succ j ih=>rw[a68]; omega
theorem c73 {M:List (List Int)} (x:Int) {o:Nat}:∀ {j},o < j→x + (q8 M o).length≤a68 M x j:=by
 intro j
 induction j with
 | zero=>intro h; omega
 | succ j ih =>
  intro h
  rw[a68]
  by_cases e:o=j
  ·subst e; have:=c39 M x o; omega
  ·have:=ih (by omega); omega
theorem d5e {E:List Ev} {R:List Int} {M:List (List Int)} (h:c4g E R M 300=true):SzG E M:=by
 have hn:b3o E R M (a7l M)≤300:=z0e h
 refine⟨?_,fun h8 r hr=>?_⟩
 ·have:E.length≤1099511627776:=by
   unfold b3o at hn
   have:(E.length:Int) + R.length + M.length≤a68 M ((E.length:Int) + R.length + M.length) (a7l M):=c39 M _ _
   omega
  exact this
 ·obtain⟨o,ho,rfl⟩:=z3u.1 hr
  have h1:a7l M=M.length:=by unfold a7l; rw[if_pos (by omega)]
  rw[h1] at hn
  have:=c73 (M:=M) ((E.length:Int) + R.length + M.length) ho
  unfold b3o at hn
  have e:q8 M o=M[o]:=o6 [] M o ho
  rw[e] at this
  show M[o].length≤1099511627776
  omega
theorem fo45:p8 Tryz.prog 45:=⟨Tryz.f45,Tryz.func45,by kernel_rfl,by kernel_rfl⟩
def q45D (N:Int) (l:List Pq) (N':Int) (m:List Pq):Prop:=p7 (({ loops:=[(0,.of (d0z l m 5))] }:Kit)).tab Tryz.f45 [.agg [.i .i64 N,.sl 0 l.length],.agg [.i .i64 N',.sl 1 m.length]] [.arr l.length (a1l l),.arr m.length (a1l m)] (l4 (.b (a60 N l N' m)))
theorem d7m (N:Int) (l:List Pq) (N':Int) (m:List Pq):q45D N l N' m=(
 let a:=((0:Int),(0:Int))
 let b:=(↑l.length:Int)
 let c:=N !=N' || b !=(↑m.length:Int)
 let d:=PLoop.of (d0z l m (5:Nat))
 let e:=N'=N'∧m.length=m.length
 let f:=N=N∧l.length=l.length
 (c=true→false=a60 N l N' m)∧(c=false→∃(x:PUnit),(∃(x:Nat),(x≤l.length∧b21 l m x=true)∧((0:Int)=(↑x:Int)∧True)∧True)∧∀(x_1:Nat),x_1≤l.length∧b21 l m x_1=true→(decide ((↑x_1:Int) < b)=true→((0:Int)≤(↑x_1:Int)∧(↑x_1:Int) < b)∧x_1 < l.length∧((0:Int)≤(↑x_1:Int)∧(↑x_1:Int) < (↑m.length:Int))∧x_1 < m.length∧((!((b6 a l x_1).fst ==(b6 a m x_1).fst && (b6 a l x_1).snd ==(b6 a m x_1).snd))=true→false=a60 N l N' m)∧((!((b6 a l x_1).fst ==(b6 a m x_1).fst && (b6 a l x_1).snd ==(b6 a m x_1).snd))=false→∃(x_2:Nat),(x_2≤l.length∧b21 l m x_2=true)∧(d.ann x).mu x_2 < (d.ann x).mu x_1∧(f∧e∧True∧True∧IntKind.i64.wrap ((↑x_1:Int) + (1:Int))=(↑x_2:Int)∧True∧N=N∧True∧N'=N'∧(N !=N')=(N !=N')∧(N !=N')=(N !=N')∧false=false∧True)∧eqA l.length (a1l l)∧eqA m.length (a1l m)∧f∧e∧True))∧(decide ((↑x_1:Int) < b)=false→true=a60 N l N' m))):=by kernel_rfl
theorem v45 (N:Int) (l:List Pq) (N':Int) (m:List Pq) (h:L9 l):q45D N l N' m:=by
 rw[d7m]
 simp only[eq_self,true_and,and_true,z0n,imp_self,l9,m6,n5,g7,g8,PLoop.of,q6,AV.len,g9,z0s,i9,j4,j5,l5,l6,l7,d0z]
 refine⟨fun hc=>by rw[a60,hc]; rfl,fun hc=>⟨(),⟨0,⟨by omega,rfl⟩,rfl⟩,fun j hj=>⟨fun hlj=>?_,fun hlj=>?_⟩⟩⟩
 ·have hj2:j < l.length:=by have:=z0e hlj; omega
  have hlen:(l.length:Int)=m.length:=by simp at hc; omega
  refine⟨⟨by omega,by omega⟩,hj2,⟨by omega,by omega⟩,by omega,fun hd=>?_,fun hd=>⟨j + 1,⟨by omega,?_⟩,by omega,wrS (n:=l.length) hj2 h⟩⟩
  ·rw[a60,hc,z3c,z1h]
   cases he:b21 l m l.length
   ·rfl
   ·have:=c4d he (l.length - (j + 1)) (j + 1) (by omega)
    rw[b21,z0d] at this
    rw[this.2] at hd
    cases hd
  ·show(b21 l m j && _)=true
   rw[hj.2,z1h]
   simpa using hd
 have hj2:j=l.length:=by have:=z0i hlj; omega
 subst hj2
 rw[a60,hc,hj.2]
 rfl
theorem n45 (nm:List (Option AV)):CallOk Tryz.prog [] 45 (o5 EL none nm [.lf .r,.lf .r] d6j):=x4 Tryz.func45 fo45 fun av pre rv h=>by
 unfold d6j at h; split at h <;> cases h
 exact⟨⟨rfl,fun t a e=>by cases e <;> exact z0h _ _⟩,fun hp=>⟨_,v45 _ _ _ _ (hp _ (.head _)),rfl,t9,u4⟩⟩
theorem fo9:p8 Tryz.prog 9:=⟨Tryz.f9,Tryz.func9,by kernel_rfl,by kernel_rfl⟩
def q9D (E:List Ev) (R:List Int) (M:List (List Int)) (n:Int):Prop:=p7 (({ loops:=[(0,.of (d0x E R M 6 5))] }:Kit)).tab Tryz.f9 [grV E R M,.i .i64 n] (grM E R M) (l4 (.b (c4g E R M n)))
theorem e0s (E:List Ev) (R:List Int) (M:List (List Int)) (n:Int):q9D E R M n=(
 let a:=IntKind.i64.wrap ((↑E.length:Int) + (↑R.length:Int)) + (↑M.length:Int)
 let b:=(↑M.length:Int)
 let c:=E.length=E.length∧R.length=R.length∧M.length=M.length
 let d:=(↑E.length:Int)
 let e:=(↑R.length:Int)
 let f:=PLoop.of (d0x E R M (6:Nat) (5:Nat))
 ∃(x:PUnit),(∃(x:Nat),x≤a7l M∧((0:Int)=(↑x:Int)∧IntKind.i64.wrap a=b3o E R M x∧True)∧True)∧∀(x_1:Nat),x_1≤a7l M→((decide ((↑x_1:Int) < b) && decide ((↑x_1:Int) < (100:Int)))=true→((0:Int)≤(↑x_1:Int)∧(↑x_1:Int) < b)∧x_1 < M.length∧∃(x_2:Nat),x_2≤a7l M∧(f.ann x).mu x_2 < (f.ann x).mu x_1∧(c∧n=n∧True∧false=false∧IntKind.i64.wrap (b3o E R M x_1 + (↑(b6 [] M x_1).length:Int))=b3o E R M x_2∧IntKind.i64.wrap ((↑x_1:Int) + (1:Int))=(↑x_2:Int)∧True∧E.length=E.length∧d=d∧True∧R.length=R.length∧e=e∧IntKind.i64.wrap (d + e)=IntKind.i64.wrap (d + e)∧True∧M.length=M.length∧b=b∧IntKind.i64.wrap a=IntKind.i64.wrap a∧True)∧eqA E.length (i6 E)∧eqA R.length (f7 R)∧eqA M.length (i4 M)∧c∧True)∧((decide ((↑x_1:Int) < b) && decide ((↑x_1:Int) < (100:Int)))=false→decide (b3o E R M x_1≤n)=c4g E R M n)):=by kernel_rfl
theorem v9 (E:List Ev) (R:List Int) (M:List (List Int)) (n:Int) (h:SzF E R M):q9D E R M n:=by
 rw[e0s]
 obtain⟨⟨hE,hR,hM⟩,hS⟩:=h
 have hF:∀ j,j≤M.length→_:=fun j hj=>c74 hS ((E.length:Int) + R.length + M.length) j hj
 have h1:a7l M≤M.length∧a7l M≤100:=by unfold a7l; split <;> omega
 simp only[eq_self,true_and,and_true,z0n,imp_self,l9,m6,n5,g7,g8,PLoop.of,q6,AV.len,g9,z0s,i9,j4,j5,l5,l6,l7,d0x]
 refine⟨(),⟨0,by omega,rfl,?_⟩,fun j hj=>⟨fun hl=>?_,fun hl=>?_⟩⟩
 ·rw[a46 (n:=(E.length:Int) + R.length) (by omega) (by omega),a46 (by omega) (by omega)]
  rfl
 ·simp only[z0d,z1i] at hl
  have hf:=hF (j + 1) (by omega)
  have hj3:j + 1≤a7l M:=by unfold a7l; split <;> omega
  rw[a68] at hf
  refine⟨⟨by omega,by omega⟩,by omega,j + 1,hj3,by omega,?_,a46 (by omega) (by omega)⟩
  exact a46 (by unfold q8 b3o at *; omega) (by unfold q8 b3o at *; omega)
 ·have hj2:j=a7l M:=by
   have:¬ (j < M.length∧j < 100):=fun hc=>by
    have:(decide ((j:Int) < M.length) && decide ((j:Int) < 100))=true:=by simp; omega
    rw[this] at hl; cases hl
   unfold a7l at hj ⊢
   split <;> rename_i h <;> simp only[h,if_true,if_false] at hj <;> omega
  subst hj2
  rfl
theorem n9 (nm:List (Option AV)):CallOk Tryz.prog [] 9 (o5 EL none nm [PG,.lf .i] d6d):=x4 Tryz.func9 fo9 fun av pre rv h=>by
 unfold d6d at h; split at h <;> cases h
 exact⟨⟨rfl,fun t a e=>by cases e <;> exact z0h _ _⟩,fun hp=>⟨_,v9 _ _ _ _ (hp _ (.head _)),rfl,t9,u4⟩⟩
theorem d8x:p8 Tryz.prog 102:=⟨Tryz.f102,Tryz.func102,by kernel_rfl,by kernel_rfl⟩
def d46 (a x k o:Int):Prop:=p7 (({}:Kit)).tab Tryz.f102 [.i .i64 a,.i .i64 x,.i .i64 k,.i .i64 o] [] (l4 (a67 (ev4 a x k o)))
theorem d2h (a x k o:Int):d46 a x k o=(a=(ev4 a x k o).ag∧x=(ev4 a x k o).ix∧k=(ev4 a x k o).k∧o=(ev4 a x k o).ob∧(-1:Int)=(ev4 a x k o).mu∧(-1:Int)=(ev4 a x k o).en∧(2:Int)=(ev4 a x k o).od∧(0:Int)=(ev4 a x k o).rd∧(0:Int)=(ev4 a x k o).wr):=by kernel_rfl
theorem v102 (a x k o:Int) :d46 a x k o:=by
 rw[d2h]
 exact⟨rfl,rfl,rfl,rfl,rfl,rfl,rfl,rfl,rfl⟩
theorem n102 (nm:List (Option AV)):CallOk Tryz.prog [] 102 (o5 EL none nm [.lf .i,.lf .i,.lf .i,.lf .i] d6b):=x4 Tryz.func102 d8x fun av pre rv h=>by
 unfold d6b at h; split at h <;> cases h
 exact⟨⟨rfl,fun t a e=>by cases e <;> exact z0h _ _⟩,fun hp=>⟨_,v102 _ _ _ _ ,rfl,t9,u4⟩⟩
theorem b5g {P:Nat→Prop} (h0:P 0) (h1:P 1) (h2:P 2) (h3:P 3):∀ j,j < exE.length→P j:=fun j hj=>by
 have hj:j < 4:=hj
 match j,hj with
 | 0,_=>exact h0
 | 1,_=>exact h1
 | 2,_=>exact h2
 | 3,_=>exact h3
theorem all2 {P:Nat→Prop} (h0:P 0) (h1:P 1):∀ j,j < exM.length→P j:=fun j hj=>by
 have hj:j < 2:=hj
 match j,hj with
 | 0,_=>exact h0
 | 1,_=>exact h1
theorem fo44:p8 Tryz.prog 44:=⟨Tryz.f44,Tryz.func44,by kernel_rfl,by kernel_rfl⟩
def q44D :Prop:=p7 (({ calls:=[kEv4 []] }:Kit)).tab Tryz.f44 [] [] ((QV.gr none exE exR exM).post EL)
theorem d7l :q44D =(
 let a:=(1:Int)
 let b:=(0:Int)
 let c:=ev4 b b (2:Int) b
 let d:=ev4 b a (2:Int) a
 let e:=ev4 a b a a
 let f:=ev4 a a a b
 let g:=(1:Nat)
 g=g∧g=g∧((4:Nat)=exE.length∧(4:Nat)=exE.length∧(∀(j:Nat),j < exE.length→d9 [c.ag,d.ag,e.ag,f.ag] j=(b6 e0 exE j).ag)∧(∀(j:Nat),j < exE.length→d9 [c.ix,d.ix,e.ix,f.ix] j=(b6 e0 exE j).ix)∧(∀(j:Nat),j < exE.length→d9 [c.k,d.k,e.k,f.k] j=(b6 e0 exE j).k)∧(∀(j:Nat),j < exE.length→d9 [c.ob,d.ob,e.ob,f.ob] j=(b6 e0 exE j).ob)∧(∀(j:Nat),j < exE.length→d9 [c.mu,d.mu,e.mu,f.mu] j=(b6 e0 exE j).mu)∧(∀(j:Nat),j < exE.length→d9 [c.en,d.en,e.en,f.en] j=(b6 e0 exE j).en)∧(∀(j:Nat),j < exE.length→d9 [c.od,d.od,e.od,f.od] j=(b6 e0 exE j).od)∧(∀(j:Nat),j < exE.length→d9 [c.rd,d.rd,e.rd,f.rd] j=(b6 e0 exE j).rd)∧(∀(j:Nat),j < exE.length→d9 [c.wr,d.wr,e.wr,f.wr] j=(b6 e0 exE j).wr)∧True)∧((4:Nat)=exR.length∧(4:Nat)=exR.length∧(∀(j:Nat),j < exR.length→d9 [(-2:Int),(-2:Int),a,(-1:Int)] j=b6 b exR j)∧True)∧(2:Nat)=exM.length∧(2:Nat)=exM.length∧((∀(j:Nat),j < exM.length→s9 g g g j=(b6 [] exM j).length)∧(∀(j:Nat),j < exM.length→∀(i:Nat),i < (b6 [] exM j).length→s9 (d9 [b]) (d9 [a]) (d9 [a]) j i=b6 b (b6 [] exM j) i)∧True)∧True):=by kernel_rfl
theorem v44  :q44D :=by
 rw[d7l]
 simp only[eq_self,true_and,and_true,z0n,imp_self,l9,m6,n5,g7,g8,PLoop.of,q6,AV.len,g9,z0s,i9,j4,j5,l5,l6,l7]
 refine⟨⟨rfl,rfl,b5g rfl rfl rfl rfl,b5g rfl rfl rfl rfl,b5g rfl rfl rfl rfl,b5g rfl rfl rfl rfl,b5g rfl rfl rfl rfl,b5g rfl rfl rfl rfl,b5g rfl rfl rfl rfl,b5g rfl rfl rfl rfl,b5g rfl rfl rfl rfl⟩,⟨rfl,rfl,b5g rfl rfl rfl rfl⟩,rfl,rfl,all2 rfl rfl,all2 (fun i hi=>?_) (fun i hi=>?_)⟩
 ·have hi:i < 1:=hi
  match i,hi with
  | 0,_=>rfl
 ·have hi:i < 1:=hi
  match i,hi with
  | 0,_=>rfl
theorem n44 (nm:List (Option AV)):CallOk Tryz.prog [] 44 (o5 EL none nm [] d6c):=x4 Tryz.func44 fo44 fun av pre rv h=>by
 unfold d6c at h; split at h <;> cases h
 exact⟨⟨rfl,fun t a e=>by cases e <;> exact z0h _ _⟩,fun hp=>⟨_,v44 ,rfl,(m9 (n102 _) t9),u4⟩⟩
def c9b:SpG:=fun
 | [.ag [.es E,.is R,.rs M],.lf (.i n)]=>some ([SzG E M∧(E.length:Int) < n],.gr (some (bif b8 E R M then 2 else 1)) [] [] [])
 | _=>none
def e0g (nm:List (Option AV)):Nat × (List MBlk→List SV→Option AR):=(22,o5 EL gbT nm [PG,.lf .i] c9b)
theorem fo22:p8 Tryz.prog 22:=⟨Tryz.f22,Tryz.func22,by kernel_rfl,by kernel_rfl⟩
def d53 (E:List Ev) (R:List Int) (M:List (List Int)) (n:Int):Prop:=p7 (({ g:=true,calls:=[a52 (nmT E R M)] }:Kit)).tab Tryz.f22 [b24 E R M,.i .i64 n] (grT E R M) ((QV.gr (some (bif b8 E R M then 2 else 1)) [] [] []).post EL)
theorem d3p (E:List Ev) (R:List Int) (M:List (List Int)) (n:Int):d53 E R M n=(
 let a:=decide (n < (0:Int)) || decide (n > (↑E.length:Int))
 let b:=([]:List Pq)
 let c:=(0:Nat)
 some tbl=some tbl∧E.length=E.length∧R.length=R.length∧M.length=M.length∧nE E∧nI R∧nR M∧(E.length≤(1099511627776:Nat)∧(M.length≤(8:Nat)→∀(r:List Int),List.Mem r M→r.length≤(1099511627776:Nat)))∧((!b8 E R M)=true→((1:Int)=bif b8 E R M then(2:Int) else(1:Int))∧b.length=c∧b.length=c∧b.length=c)∧((!b8 E R M)=false→(a=true→((2:Int)=bif b8 E R M then(2:Int) else(1:Int))∧b.length=c∧b.length=c∧b.length=c)∧(a=false→False))):=by kernel_rfl
theorem v22a (E:List Ev) (R:List Int) (M:List (List Int)) (n:Int) (h:SzG E M∧(E.length:Int) < n):d53 E R M n:=by
 rw[d3p]
 simp only[eq_self,true_and,and_true,z0n,imp_self,l9,m6,n5,g7,g8,PLoop.of,q6,AV.len,g9,z0s,i9,j4,j5,l5,l6,l7]
 refine⟨⟨h.1.1,h.1.2⟩,fun hv=>?_,fun hv=>⟨fun _=>?_,fun hc=>?_⟩⟩
 ·simp only[z0v] at hv
  rw[hv]; exact⟨rfl,rfl,rfl,rfl⟩
 ·simp only[z2w] at hv
  rw[hv]; exact⟨rfl,rfl,rfl,rfl⟩
 ·have:=h.2
  simp at hc
  omega
theorem n22a (nm:List (Option AV)):CallOk Tryz.prog GL 22 (o5 EL gbT nm [PG,.lf .i] c9b):=a5j Tryz.func22 fo22 fun av pre rv h=>by
 unfold c9b at h; split at h <;> cases h
 exact⟨⟨rfl,fun t a e=>by cases e <;> exact z0h _ _⟩,fun hp=>⟨_,v22a _ _ _ _ (hp _ (.head _)),rfl,(m9 (n33 _) t9),u4⟩⟩
def c1j:List Int:=[-2,-2,1,3]
def exV (l:List Pq):List Pq:=l8 (b8 exE exR exM) l
def a8y:List Pq:=exV (b7 exE.length (poG exE exR exM))
def b3n:List Pq:=exV (b7 exE.length (rfG exE exR exM))
def a8z:List Pq:=exV (b7 exE.length (y9 exE exR exM))
def b3m:List Pq:=exV (b7 exE.length (j6 exE exR exM))
def a7c:List Pq:=exV (a3v exE.length (poG exE exR exM) (i5 exE exR exM) (y9 exE exR exM))
def b22:List Pq:=exV (a3v exE.length (rfG exE exR exM) (j7 exE exR exM) (j6 exE exR exM))
def b23:List (Option AV):=[none,some (.es exE),some (.is exR),some (.rs exM),none,some (.ps a8y),none,some (.ps b3n),none,some (.ps a8z),none,some (.ps b3m),none,some (.ps a7c),none,some (.ps b22),none,some (.es exE),some (.is c1j),some (.rs exM)]
def d5z:SpG:=fun | []=>some ([],plB true) | _=>none
def kAwk (nm:List (Option AV)):Nat × (List MBlk→List SV→Option AR):=(10,o5 EL gbT nm [] d5z)
def kHas (nm:List (Option AV)):Nat × (List MBlk→List SV→Option AR):=(46,a1z EL nm [.r,.i,.i] c96)
def a7j:Bool:=(bif b8 exE exR exM then(0:Int) else 1) == 0 && (bif b8 exE exR exM then(0:Int) else 1) == 0 && (bif b8 exE exR exM then(0:Int) else 1) == 0 && (bif b8 exE exR exM then(0:Int) else 1) == 0 && (bif b8 exE exR exM then(0:Int) else 1) == 0 && (bif b8 exE exR exM then(0:Int) else 1) == 0 && (bif b8 exE c1j exM then(0:Int) else 1) == 1 && (bif b8 exE exR exM then(2:Int) else 1) == 2
def exN:Int:=bif b8 exE exR exM then exE.length else 0
def b7i:Bool:=a7j && b8 exE exR exM && a60 exN a8y 4 (mkN (fun j=>(d9 [0,2] j,d9 [1,3] j)) 2) && a60 exN b3n 4 (mkN (fun j=>(d9 [1] j,d9 [2] j)) 1)
def c1k:Bool:=b7i && a60 exN a8z 4 (mkN (fun j=>(d9 [1] j,d9 [2] j)) 1) && a60 exN b3m 4 (mkN (fun j=>(d9 [3] j,d9 [0] j)) 1)
def a2w:Bool:=c1k && (d8 exN a7c && d7 a7c 0 3) && (d8 exN b22 && d7 b22 3 0)
theorem d8w:(a2w && a3g exE exR exM exE exR exM == 0 && a3g exE c1j exM exE exR exM == -1)=true:=by kernel_rfl
theorem exSz:SzG exE exM:=⟨z1t (by kernel_rfl:Nat.ble exE.length 1099511627776=true),fun _ r hr=>by
 have:r∈exM:=hr
 simp only[exM,z0t,List.not_mem_nil,or_false] at this
 rcases this with rfl | rfl <;> decide⟩
theorem fo10:p8 Tryz.prog 10:=⟨Tryz.f10,Tryz.func10,by kernel_rfl,by kernel_rfl⟩
def q10D :Prop:=p7 (({ g:=true,calls:=[kExa [],c1s 25 (a59 poG) b23,c1s 27 (a59 rfG) b23,c1s 13 (a59 y9) b23,c1s 11 (a59 j6) b23,c1s 15 (b1a poG i5 y9) b23,c1s 17 (b1a rfG j7 j6) b23,c1s 29 (a59 j7) b23,e0g b23,a52 b23,kPrs b23,kHas b23,e0f b23] }:Kit)).tab Tryz.f10 [] [tbl] (l4 (.b true))
theorem d75 :q10D =(
 let a:=a2w && a3g exE exR exM exE exR exM ==(0:Int)
 let b:=(1099511627776:Nat)
 let c:=n7 [] (n7 [] (n7 [] (n7 [] (n7 [] (n7 [] (n7 [] (n7 [] (n7 [] tbl))))))))
 let d:=(0:Int)
 let e:=c1k && (d8 exN a7c && d7 a7c d (3:Int))
 let f:=n7 [] (n7 [] (n7 [] tbl))
 let g:=b8 exE exR exM
 let h:=(↑exE.length:Int)
 let i:=a7j && b8 exE exR exM
 let k:=(8:Nat)
 let l:=(3:Int)
 let m:=n7 [] (n7 [] (n7 [] c))
 let n:=(1:Nat)
 let o:=(4:Int)
 let p:=(2:Int)
 let q:=(1:Int)
 let s:=(a2w)=true→exE.length=exE.length
 let t:=(a2w)=true→exR.length=exR.length
 let u:=(a2w)=true→exM.length=exM.length
 let v:=a=true→exE.length=exE.length
 let w:=a=true→exR.length=exR.length
 let y:=a=true→exM.length=exM.length
 let z:=(2:Nat)
 some (n7 [] tbl)=some tbl∧exE.length=exE.length∧exR.length=exR.length∧exM.length=exM.length∧nE exE∧nI exR∧nR exM∧(exE.length≤b∧(exM.length≤k→∀(r:List Int),List.Mem r exM→r.length≤b))∧l8 g (b7 h (poG exE exR exM))=a8y∧some (n7 [] (n7 [] tbl))=some tbl∧exE.length=exE.length∧exR.length=exR.length∧exM.length=exM.length∧nE exE∧nI exR∧nR exM∧(exE.length≤b∧(exM.length≤k→∀(r:List Int),List.Mem r exM→r.length≤b))∧l8 g (b7 h (rfG exE exR exM))=b3n∧some f=some tbl∧exE.length=exE.length∧exR.length=exR.length∧exM.length=exM.length∧nE exE∧nI exR∧nR exM∧(exE.length≤b∧(exM.length≤k→∀(r:List Int),List.Mem r exM→r.length≤b))∧l8 g (b7 h (y9 exE exR exM))=a8z∧some (n7 [] f)=some tbl∧exE.length=exE.length∧exR.length=exR.length∧exM.length=exM.length∧nE exE∧nI exR∧nR exM∧(exE.length≤b∧(exM.length≤k→∀(r:List Int),List.Mem r exM→r.length≤b))∧l8 g (b7 h (j6 exE exR exM))=b3m∧some (n7 [] (n7 [] f))=some tbl∧exE.length=exE.length∧exR.length=exR.length∧exM.length=exM.length∧nE exE∧nI exR∧nR exM∧(exE.length≤b∧(exM.length≤k→∀(r:List Int),List.Mem r exM→r.length≤b))∧l8 g (a3v exE.length (poG exE exR exM) (i5 exE exR exM) (y9 exE exR exM))=a7c∧some (n7 [] (n7 [] (n7 [] f)))=some tbl∧exE.length=exE.length∧exR.length=exR.length∧exM.length=exM.length∧nE exE∧nI exR∧nR exM∧(exE.length≤b∧(exM.length≤k→∀(r:List Int),List.Mem r exM→r.length≤b))∧l8 g (a3v exE.length (rfG exE exR exM) (j7 exE exR exM) (j6 exE exR exM))=b22∧(d≤l∧l < (↑exR.length:Int))∧Int.toNat l < exR.length∧some c=some
 tbl∧exE.length=exE.length∧exR.length=exR.length∧exM.length=exM.length∧nE exE∧mkN (fun(j:Nat)=>bif j.beq (Int.toNat l) then l else b6 d exR j) exR.length=c1j∧nR exM∧(exE.length≤b∧(exM.length≤k→∀(r:List Int),List.Mem r exM→r.length≤b))∧some (n7 [] c)=some tbl∧exE.length=exE.length∧exR.length=exR.length∧exM.length=exM.length∧nE exE∧nI exR∧nR exM∧((exE.length≤b∧(exM.length≤k→∀(r:List Int),List.Mem r exM→r.length≤b))∧h < (5:Int))∧((a7j)=true→some m=some tbl)∧((a7j)=true→exE.length=exE.length)∧((a7j)=true→exR.length=exR.length)∧((a7j)=true→exM.length=exM.length)∧((a7j)=true→nE exE)∧((a7j)=true→nI exR)∧((a7j)=true→nR exM)∧((a7j)=true→exE.length≤b∧(exM.length≤k→∀(r:List Int),List.Mem r exM→r.length≤b))∧(i=true→(AV.ps a8y).len=(AV.ps a8y).len)∧(i=true→mkN (fun(j:Nat)=>((b6 (d,d) a8y j).fst,(b6 (d,d) a8y j).snd)) (AV.ps a8y).len=a8y)∧(i=true→z=z)∧(i=true→a8y.length≤b)∧((a7j && b8 exE exR exM && a60 exN a8y o (mkN (fun(j:Nat)=>(d9 [d,p] j,d9 [q,l] j)) z))=true→(AV.ps b3n).len=(AV.ps b3n).len)∧((a7j && b8 exE exR exM && a60 exN a8y o (mkN (fun(j:Nat)=>(d9 [d,p] j,d9 [q,l] j)) z))=true→mkN (fun(j:Nat)=>((b6 (d,d) b3n j).fst,(b6 (d,d) b3n j).snd)) (AV.ps b3n).len=b3n)∧((a7j && b8 exE exR exM && a60 exN a8y o (mkN (fun(j:Nat)=>(d9 [d,p] j,d9 [q,l] j)) z))=true→n=n)∧((a7j && b8 exE exR exM && a60 exN a8y o (mkN (fun(j:Nat)=>(d9 [d,p] j,d9 [q,l] j)) z))=true→b3n.length≤b)∧((b7i)=true→(AV.ps a8z).len=(AV.ps a8z).len)∧((b7i)=true→mkN (fun(j:Nat)=>((b6 (d,d) a8z j).fst,(b6 (d,d) a8z j).snd))
 (AV.ps a8z).len=a8z)∧((b7i)=true→n=n)∧((b7i)=true→a8z.length≤b)∧((b7i && a60 exN a8z o (mkN (fun(j:Nat)=>(d9 [q] j,d9 [p] j)) n))=true→(AV.ps b3m).len=(AV.ps b3m).len)∧((b7i && a60 exN a8z o (mkN (fun(j:Nat)=>(d9 [q] j,d9 [p] j)) n))=true→mkN (fun(j:Nat)=>((b6 (d,d) b3m j).fst,(b6 (d,d) b3m j).snd)) (AV.ps b3m).len=b3m)∧((b7i && a60 exN a8z o (mkN (fun(j:Nat)=>(d9 [q] j,d9 [p] j)) n))=true→n=n)∧((b7i && a60 exN a8z o (mkN (fun(j:Nat)=>(d9 [q] j,d9 [p] j)) n))=true→b3m.length≤b)∧((c1k)=true→(AV.ps a7c).len=(AV.ps a7c).len)∧((c1k)=true→mkN (fun(j:Nat)=>((b6 (d,d) a7c j).fst,(b6 (d,d) a7c j).snd)) (AV.ps a7c).len=a7c)∧((c1k)=true→a7c.length≤b)∧(e=true→(AV.ps b22).len=(AV.ps b22).len)∧(e=true→mkN (fun(j:Nat)=>((b6 (d,d) b22 j).fst,(b6 (d,d) b22 j).snd)) (AV.ps b22).len=b22)∧(e=true→b22.length≤b)∧((a2w)=true→some m=some tbl)∧s∧t∧u∧((a2w)=true→nE exE)∧((a2w)=true→nI exR)∧((a2w)=true→nR exM)∧s∧t∧u∧((a2w)=true→nE exE)∧((a2w)=true→nI exR)∧((a2w)=true→nR exM)∧((a2w)=true→exE.length≤b∧(exM.length≤k→∀(r:List Int),List.Mem r exM→r.length≤b))∧((a2w)=true→exE.length≤b∧(exM.length≤k→∀(r:List Int),List.Mem r exM→r.length≤b))∧(a=true→some m=some tbl)∧v∧w∧y∧(a=true→nE exE)∧(a=true→mkN (fun(j:Nat)=>bif j.beq (Int.toNat l) then l else b6 d exR j) exR.length=c1j)∧(a=true→nR exM)∧v∧w∧y∧(a=true→nE exE)∧(a=true→nI exR)∧(a=true→nR exM)∧(a=true→exE.length≤b∧(exM.length≤k→∀(r:List Int),List.Mem r exM→r.length≤b))∧(a=true→exE.length≤b∧(exM.length≤k→∀(r:List Int),List.Mem r exM→r.length≤b))∧(a2w && a3g
 exE exR exM exE exR exM ==d && a3g exE c1j exM exE exR exM ==(-1:Int))=true):=by kernel_rfl
theorem v10  :q10D :=by
 rw[d75]
 simp only[eq_self,true_and,and_true,z0n,imp_self,l9,m6,n5,g7,g8,PLoop.of,q6,AV.len,g9,z0s,i9,j4,j5,l5,l6,l7]
 have hS:=exSz
 have hS:exE.length≤1099511627776∧(exM.length≤8→∀ r:List Int,List.Mem r exM→r.length≤1099511627776):=⟨hS.1,hS.2⟩
 have hR:mkN (fun j=>bif j.beq (Int.toNat 3) then 3 else b6 0 exR j) exR.length=c1j:=by kernel_rfl
 exact⟨hS,rfl,hS,rfl,hS,rfl,hS,rfl,hS,rfl,hS,rfl,⟨by decide,by decide⟩,by decide,hR,hS,⟨hS,by decide⟩,fun _=>hS,fun _=>z1t (by kernel_rfl:Nat.ble a8y.length 1099511627776=true),fun _=>z1t (by kernel_rfl:Nat.ble b3n.length 1099511627776=true),fun _=>z1t (by kernel_rfl:Nat.ble a8z.length 1099511627776=true),fun _=>z1t (by kernel_rfl:Nat.ble b3m.length 1099511627776=true),fun _=>z1t (by kernel_rfl:Nat.ble a7c.length 1099511627776=true),fun _=>z1t (by kernel_rfl:Nat.ble b22.length 1099511627776=true),fun _=>hS,fun _=>hS,fun _=>hR,fun _=>hS,fun _=>hS,d8w⟩
theorem n10 (nm:List (Option AV)):CallOk Tryz.prog GL 10 (o5 EL gbT nm [] d5z):=a5j Tryz.func10 fo10 fun av pre rv h=>by
 unfold d5z at h; split at h <;> cases h
 exact⟨⟨rfl,fun t a e=>by cases e <;> exact z0h _ _⟩,fun hp=>⟨_,v10 ,rfl,(m9 (a1o (n44 _)) (m9 (n25 _) (m9 (n27 _) (m9 (n13 _) (m9 (n11 _) (m9 (n15 _) (m9 (n17 _) (m9 (n29 _) (m9 (n22a _) (m9 (n33 _) (m9 (a1o (n45 _)) (m9 (a1o (n46 _)) (m9 (n42 _) t9))))))))))))),u4⟩⟩
end Go.Proofs.YtaeeaniofljmnaaGreatDoor

/-
  A part of the proof (K51a).
-/
import Derived.Test.YtaeeaniofljmnaaGreatDoorK46a
namespace Go.Proofs.YtaeeaniofljmnaaGreatDoor
set_option linter.unusedSimpArgs false
set_option linter.unusedVariables false
open Go Go.Proofs.YtaeeaniofljmnaaGreatDoor.Sx
set_option maxRecDepth 100000
theorem c4o {E:List Ev} {R:List Int} {M:List (List Int)} (h:SzG E M):(noE E R M).length≤1099511627776∧(noR E R M).length≤1099511627776∧(noM E R M).length≤1099511627776∧∀ r:List Int,List.Mem r (noM E R M)→r.length≤1099511627776:=by
 unfold noE noR noM
 cases hk:s6 E R M
 ·simp only[d5,z0l]
  exact⟨by simp,by simp,by simp,fun r h=>nomatch h⟩
 ·simp only[s6,z0d] at hk
  obtain⟨hG,hN⟩:=a0g hk.1 h
  obtain⟨hM,hR⟩:=a14 hk.1
  simp only[d5,z0f,arE,arR,arM,z2k,w8,a34]
  refine⟨by omega,by omega,by omega,fun r hr=>?_⟩
  obtain⟨q,hq,rfl⟩:=z2b.1 (show r∈_ from hr)
  rw[z2k]
  exact h.2 hM q hq
theorem or3 (a b c:Int):orF (mkN (g8 [a,b,c]) 3)=orF [a,b,c]:=rfl
theorem fo42:s5 Tryz.prog 42:=⟨Tryz.f42,Tryz.func42,by kernel_rfl,by kernel_rfl⟩
def q42D (E:List Ev) (R:List Int) (M:List (List Int)) (E':List Ev) (R':List Int) (M':List (List Int)):Prop:=s4 (({ g:=true,calls:=[e1l (c8z E R M E' R' M'),kCmF (c8z E R M E' R' M'),kCmL (c8z E R M E' R' M'),kCmM (c8z E R M E' R' M'),kOr (c8z E R M E' R' M')] }:Kit)).tab Tryz.f42 [b2r E R M,c8e E' R' M'] (b0e E R M E' R' M') (m4 (.i .i64 (a0h E R M E' R' M')))
theorem d8s (E:List Ev) (R:List Int) (M:List (List Int)) (E':List Ev) (R':List Int) (M':List (List Int)):q42D E R M E' R' M'=(
 let a:=d5 (s6 E' R' M') (arM M' (w8 E' R' M'))
 let b:=(1099511627776:Nat)
 let c:=d5 (s6 E R M) (arM M (w8 E R M))
 let d:=d5 (s6 E' R' M') (arE E' (w8 E' R' M'))
 let e:=d5 (s6 E' R' M') (arR R' (w8 E' R' M'))
 let f:=mkN (g8 [o9 a51 (noE E R M) (noE E' R' M'),o9 j5 (noR E R M) (noR E' R' M'),a7j (noM E R M) (noM E' R' M')]) (3:Nat)
 let g:=d5 (s6 E R M) (arE E (w8 E R M))
 let h:=d5 (s6 E R M) (arR R (w8 E R M))
 let k:=(0:Int)
 let l:=a2f E R M !=k && a2f E' R' M' !=k
 some tbl=some tbl∧E.length=E.length∧R.length=R.length∧M.length=M.length∧nE E∧nI R∧nR M∧(E.length≤b∧(M.length≤(8:Nat)→∀(r:List Int),List.Mem r M→r.length≤b))∧some (q7 [] tbl)=some tbl∧E'.length=E'.length∧R'.length=R'.length∧M'.length=M'.length∧mkN (fun(j:Nat)=>b7 e0 E' j) E'.length=E'∧mkN (b7 k R') R'.length=R'∧mkN (fun(j:Nat)=>mkN (fun(i:Nat)=>b7 k (b7 [] M' j) i) (b7 [] M' j).length) M'.length=M'∧(E'.length≤b∧(M'.length≤(8:Nat)→∀(r:List Int),List.Mem r M'→r.length≤b))∧(l=true→k=a0h E R M E' R' M')∧(l=false→((a2f E R M !=k)=true→(-1:Int)=a0h E R M E' R' M')∧((a2f E R M !=k)=false→((a2f E' R' M' !=k)=true→(1:Int)=a0h E R M E' R' M')∧((a2f E' R' M' !=k)=false→g.length=g.length∧mkN (fun(j:Nat)=>b7 e0 g j) g.length=noE E R M∧d.length=d.length∧mkN (fun(j:Nat)=>b7 e0 d j) d.length=noE E' R' M'∧(noE E R M).length≤b∧h.length=h.length∧mkN (b7 k h) h.length=noR E R M∧e.length=e.length∧mkN (b7 k e) e.length=noR E' R' M'∧(noR E R M).length≤b∧c.length=c.length∧mkN (fun(j:Nat)=>mkN (fun(i:Nat)=>b7 k (b7 [] c j) i) (b7 [] c j).length) c.length=noM E R M∧a.length=a.length∧mkN (fun(j:Nat)=>mkN (fun(i:Nat)=>b7 k (b7 [] a j) i) (b7 [] a j).length) a.length=noM E' R' M'∧(((noM E R M).length≤b∧(noM E' R' M').length≤b)∧∀(r:List Int),List.Mem r (noM E R M)→r.length≤b)∧(3:Nat)=(3:Nat)∧f.length≤b∧orF f=a0h E R M E' R' M')))):=by kernel_rfl
theorem v42 (E:List Ev) (R:List Int) (M:List (List Int)) (E':List Ev) (R':List Int) (M':List (List Int)) (h:SzG E M) (h':SzG E' M'):q42D E R M E' R' M':=by
 rw[d8s]
 simp only[eq_self,true_and,and_true,z0o,imp_self,o6,o8,p7,i7,i9,PLoop.of,s8,AV.len,j4,z0u,l4,l5,l6,m8,m9,n5]
 have h1:=c4o (R:=R) h
 have h2:=c4o (R:=R') h'
 refine⟨⟨h.1,h.2⟩,⟨h'.1,h'.2⟩,fun hc=>?_,fun hc=>⟨fun hd=>?_,fun hd=>⟨fun he=>?_,fun he=>?_⟩⟩⟩
 ·simp only[z0d] at hc
  simp[a0h,hc]
 ·rw[hd,z0y] at hc
  simp[a0h,hd,hc]
 ·simp[a0h,hd,he]
 refine⟨rfl,rfl,h1.1,rfl,rfl,h1.2.1,rfl,rfl,⟨⟨h1.2.2.1,h2.2.2.1⟩,h1.2.2.2⟩,by omega,?_⟩
 rw[or3]
 simp[a0h,hd,he]
theorem n42 (nm:List (Option AV)):CallOk Tryz.prog GL 42 (q6 EL gbT nm [PG,PG] d0e):=a5i Tryz.func42 fo42 fun av pre rv h=>by
 unfold d0e at h; split at h <;> cases h
 exact⟨⟨rfl,fun t a e=>by cases e <;> exact z0h _ _⟩,fun hp=>⟨_,v42 _ _ _ _ _ _ (hp _ (.head _)) (hp _ (.tail _ (.head _))),rfl,(o5 (n20 _) (o5 (a1n (n97 _)) (o5 (a1n (n99 _)) (o5 (a1n (n92 _)) (o5 (a1n (n96 _)) v4))))),v5⟩⟩
def b2o (l m:List Pq):Nat→Bool
 | 0=>true
 | j + 1=>b2o l m j && ((b7 (0,0) l j).1 == (b7 (0,0) m j).1 && (b7 (0,0) l j).2 == (b7 (0,0) m j).2)
def a6a (N:Int) (l:List Pq) (N':Int) (m:List Pq):Bool:=!(N != N' || (l.length:Int) != (m.length:Int)) && b2o l m l.length
def d25 (l m:List Pq) (t:Nat):LAnn:=s8 l.length t (fun j=>b2o l m j=true) (fun _=>[]) []
def d7r:SpP:=fun | [.lf (.r N l),.lf (.r N' m)]=>some ([L9 l],plB (a6a N l N' m)) | _=>none
def kPrs (nm:List (Option AV)):Nat × (List MBlk→List SV→Option AR):=(45,q6 EL none nm [.lf .r,.lf .r] d7r)
def sAgr:SpP:=fun | [.lf (.r N l),.lf (.i e),.lf (.r N' m),.lf (.i e')]=>some ([L9 l],plB (a6a N l N' m && e == e')) | _=>none
def a6g (M:List (List Int)) (x:Int):Nat→Int
 | 0=>x
 | j + 1=>a6g M x j + (t8 M j).length
def b49 (E:List Ev) (R:List Int) (M:List (List Int)):Nat→Int:=a6g M ((E.length:Int) + R.length + M.length)
def a7w (M:List (List Int)):Nat:=if M.length < 100 then M.length else 100
def a8p (E:List Ev) (R:List Int) (M:List (List Int)) (n:Int):Bool:=decide (b49 E R M (a7w M)≤n)
def d24 (E:List Ev) (R:List Int) (M:List (List Int)) (t s:Nat):LAnn:={ X:=Nat,inv:=fun j=>j≤a7w M,slots:=fun j=>[(t,.i .i64 (j:Int)),(s,.i .i64 (b49 E R M j))],mem:=fun _=>[],mu:=fun j=>a7w M - j,kill:=[] }
def SzF (E:List Ev) (R:List Int) (M:List (List Int)):Prop:=(E.length≤17592186044416∧R.length≤17592186044416∧M.length≤17592186044416)∧∀ r∈M,r.length≤17592186044416
def d7k:SpP:=fun | [.ag [.es E,.is R,.rs M],.lf (.i n)]=>some ([SzF E R M],plB (a8p E R M n)) | _=>none
def kFew (nm:List (Option AV)):Nat × (List MBlk→List SV→Option AR):=(9,q6 EL none nm [PG,.lf .i] d7k)
def exE:List Ev:=[⟨0,0,2,0,-1,-1,2,0,0⟩,⟨0,1,2,1,-1,-1,2,0,0⟩,⟨1,0,1,1,-1,-1,2,0,0⟩,⟨1,1,1,0,-1,-1,2,0,0⟩]
def exR:List Int:=[-2,-2,1,-1]
def exM:List (List Int):=[[0],[1]]
def ev4 (a x k o:Int):Ev:=⟨a,x,k,o,-1,-1,2,0,0⟩
def d7i:SpP:=fun | [.lf (.i a),.lf (.i x),.lf (.i k),.lf (.i o)]=>some ([],.rv (.pl (a5o (ev4 a x k o)))) | _=>none
def kEv4 (nm:List (Option AV)):Nat × (List MBlk→List SV→Option AR):=(102,q6 EL none nm [.lf .i,.lf .i,.lf .i,.lf .i] d7i)
def d7j:SpG:=fun | []=>some ([],.gr none exE exR exM) | _=>none
def kExa (nm:List (Option AV)):Nat × (List MBlk→List SV→Option AR):=(44,q6 EL none nm [] d7j)
theorem c5f {l m:List Pq} {k:Nat} (h:b2o l m k=true):∀ d j,j + d=k→b2o l m j=true:=by
 intro d
 induction d generalizing k with
 | zero=>intro j e; subst e; exact h
 | succ d ih =>
  intro j e
  obtain⟨k,rfl⟩:∃ k',k=k' + 1:=⟨j + d,by omega⟩
  simp only[b2o,z0d] at h
  exact ih h.1 j (by omega)
theorem c86 {M:List (List Int)} (hS:∀ r∈M,r.length≤17592186044416) (x:Int):∀ j,j≤M.length→x≤a6g M x j∧a6g M x j≤x + j * 17592186044416:=by
 intro j
 induction j with
 | zero=>intro _; simp[a6g]
 | succ j ih =>
  intro h
  have h1:=ih (by omega)
  have h2:(t8 M j).length≤17592186044416:=hS _ (by unfold t8; rw[m7 [] M _ (show j < M.length by omega)]; exact z1v _)
  rw[a6g]
  omega
theorem c49 (M:List (List Int)) (x:Int):∀ j,x≤a6g M x j:=fun j=>by
 induction j with
 | zero=>simp[a6g]
 | succ j ih=>rw[a6g]; omega
theorem c85 {M:List (List Int)} (x:Int) {o:Nat}:∀ {j},o < j→x + (t8 M o).length≤a6g M x j:=by
 intro j
 induction j with
 | zero=>intro h; omega
 | succ j ih =>
  intro h
  rw[a6g]
  by_cases e:o=j
  ·subst e; have:=c49 M x o; omega
  ·have:=ih (by omega); omega
theorem d6o {E:List Ev} {R:List Int} {M:List (List Int)} (h:a8p E R M 300=true):SzG E M:=by
 have hn:b49 E R M (a7w M)≤300:=z0e h
 refine⟨?_,fun h8 r hr=>?_⟩
 ·have:E.length≤1099511627776:=by
   unfold b49 at hn
   have:(E.length:Int) + R.length + M.length≤a6g M ((E.length:Int) + R.length + M.length) (a7w M):=c49 M _ _
   omega
  exact this
 ·obtain⟨o,ho,rfl⟩:=z2s.1 hr
  have h1:a7w M=M.length:=by unfold a7w; rw[if_pos (by omega)]
  rw[h1] at hn
  have:=c85 (M:=M) ((E.length:Int) + R.length + M.length) ho
  unfold b49 at hn
  have e:t8 M o=M[o]:=m7 [] M o ho
  rw[e] at this
  show M[o].length≤1099511627776
  omega
theorem fo45:s5 Tryz.prog 45:=⟨Tryz.f45,Tryz.func45,by kernel_rfl,by kernel_rfl⟩
def q45D (N:Int) (l:List Pq) (N':Int) (m:List Pq):Prop:=s4 (({ loops:=[(0,.of (d25 l m 5))] }:Kit)).tab Tryz.f45 [.agg [.i .i64 N,.sl 0 l.length],.agg [.i .i64 N',.sl 1 m.length]] [.arr l.length (a1y l),.arr m.length (a1y m)] (m4 (.b (a6a N l N' m)))
theorem d8v (N:Int) (l:List Pq) (N':Int) (m:List Pq):q45D N l N' m=(
 let a:=((0:Int),(0:Int))
 let b:=(↑l.length:Int)
 let c:=N !=N' || b !=(↑m.length:Int)
 let d:=PLoop.of (d25 l m (5:Nat))
 let e:=N'=N'∧m.length=m.length
 let f:=N=N∧l.length=l.length
 (c=true→false=a6a N l N' m)∧(c=false→∃(x:PUnit),(∃(x:Nat),(x≤l.length∧b2o l m x=true)∧((0:Int)=(↑x:Int)∧True)∧True)∧∀(x_1:Nat),x_1≤l.length∧b2o l m x_1=true→(decide ((↑x_1:Int) < b)=true→((0:Int)≤(↑x_1:Int)∧(↑x_1:Int) < b)∧x_1 < l.length∧((0:Int)≤(↑x_1:Int)∧(↑x_1:Int) < (↑m.length:Int))∧x_1 < m.length∧((!((b7 a l x_1).fst ==(b7 a m x_1).fst && (b7 a l x_1).snd ==(b7 a m x_1).snd))=true→false=a6a N l N' m)∧((!((b7 a l x_1).fst ==(b7 a m x_1).fst && (b7 a l x_1).snd ==(b7 a m x_1).snd))=false→∃(x_2:Nat),(x_2≤l.length∧b2o l m x_2=true)∧(d.ann x).mu x_2 < (d.ann x).mu x_1∧(f∧e∧True∧True∧IntKind.i64.wrap ((↑x_1:Int) + (1:Int))=(↑x_2:Int)∧True∧N=N∧True∧N'=N'∧(N !=N')=(N !=N')∧(N !=N')=(N !=N')∧false=false∧True)∧eqA l.length (a1y l)∧eqA m.length (a1y m)∧f∧e∧True))∧(decide ((↑x_1:Int) < b)=false→true=a6a N l N' m))):=by kernel_rfl
theorem v45 (N:Int) (l:List Pq) (N':Int) (m:List Pq) (h:L9 l):q45D N l N' m:=by
 rw[d8v]
 simp only[eq_self,true_and,and_true,z0o,imp_self,o6,o8,p7,i7,i9,PLoop.of,s8,AV.len,j4,z0u,l4,l5,l6,m8,m9,n5,d25]
 refine⟨fun hc=>by rw[a6a,hc]; rfl,fun hc=>⟨(),⟨0,⟨by omega,rfl⟩,rfl⟩,fun j hj=>⟨fun hlj=>?_,fun hlj=>?_⟩⟩⟩
 ·have hj2:j < l.length:=by have:=z0e hlj; omega
  have hlen:(l.length:Int)=m.length:=by simp at hc; omega
  refine⟨⟨by omega,by omega⟩,hj2,⟨by omega,by omega⟩,by omega,fun hd=>?_,fun hd=>⟨j + 1,⟨by omega,?_⟩,by omega,wrS (n:=l.length) hj2 h⟩⟩
  ·rw[a6a,hc,z2z,z0y]
   cases he:b2o l m l.length
   ·rfl
   ·have:=c5f he (l.length - (j + 1)) (j + 1) (by omega)
    rw[b2o,z0d] at this
    rw[this.2] at hd
    cases hd
  ·show(b2o l m j && _)=true
   rw[hj.2,z0y]
   simpa using hd
 have hj2:j=l.length:=by have:=z0i hlj; omega
 subst hj2
 rw[a6a,hc,hj.2]
 rfl
theorem n45 (nm:List (Option AV)):CallOk Tryz.prog [] 45 (q6 EL none nm [.lf .r,.lf .r] d7r):=z4 Tryz.func45 fo45 fun av pre rv h=>by
 unfold d7r at h; split at h <;> cases h
 exact⟨⟨rfl,fun t a e=>by cases e <;> exact z0h _ _⟩,fun hp=>⟨_,v45 _ _ _ _ (hp _ (.head _)),rfl,v4,v5⟩⟩
theorem fo9:s5 Tryz.prog 9:=⟨Tryz.f9,Tryz.func9,by kernel_rfl,by kernel_rfl⟩
def q9D (E:List Ev) (R:List Int) (M:List (List Int)) (n:Int):Prop:=s4 (({ loops:=[(0,.of (d24 E R M 6 5))] }:Kit)).tab Tryz.f9 [grV E R M,.i .i64 n] (grM E R M) (m4 (.b (a8p E R M n)))
theorem e1u (E:List Ev) (R:List Int) (M:List (List Int)) (n:Int):q9D E R M n=(
 let a:=IntKind.i64.wrap ((↑E.length:Int) + (↑R.length:Int)) + (↑M.length:Int)
 let b:=(↑M.length:Int)
 let c:=E.length=E.length∧R.length=R.length∧M.length=M.length
 let d:=(↑E.length:Int)
 let e:=(↑R.length:Int)
 let f:=PLoop.of (d24 E R M (6:Nat) (5:Nat))
 ∃(x:PUnit),(∃(x:Nat),x≤a7w M∧((0:Int)=(↑x:Int)∧IntKind.i64.wrap a=b49 E R M x∧True)∧True)∧∀(x_1:Nat),x_1≤a7w M→((decide ((↑x_1:Int) < b) && decide ((↑x_1:Int) < (100:Int)))=true→((0:Int)≤(↑x_1:Int)∧(↑x_1:Int) < b)∧x_1 < M.length∧∃(x_2:Nat),x_2≤a7w M∧(f.ann x).mu x_2 < (f.ann x).mu x_1∧(c∧n=n∧True∧false=false∧IntKind.i64.wrap (b49 E R M x_1 + (↑(b7 [] M x_1).length:Int))=b49 E R M x_2∧IntKind.i64.wrap ((↑x_1:Int) + (1:Int))=(↑x_2:Int)∧True∧E.length=E.length∧d=d∧True∧R.length=R.length∧e=e∧IntKind.i64.wrap (d + e)=IntKind.i64.wrap (d + e)∧True∧M.length=M.length∧b=b∧IntKind.i64.wrap a=IntKind.i64.wrap a∧True)∧eqA E.length (i6 E)∧eqA R.length (e8 R)∧eqA M.length (i4 M)∧c∧True)∧((decide ((↑x_1:Int) < b) && decide ((↑x_1:Int) < (100:Int)))=false→decide (b49 E R M x_1≤n)=a8p E R M n)):=by kernel_rfl
theorem v9 (E:List Ev) (R:List Int) (M:List (List Int)) (n:Int) (h:SzF E R M):q9D E R M n:=by
 rw[e1u]
 obtain⟨⟨hE,hR,hM⟩,hS⟩:=h
 have hF:∀ j,j≤M.length→_:=fun j hj=>c86 hS ((E.length:Int) + R.length + M.length) j hj
 have h1:a7w M≤M.length∧a7w M≤100:=by unfold a7w; split <;> omega
 simp only[eq_self,true_and,and_true,z0o,imp_self,o6,o8,p7,i7,i9,PLoop.of,s8,AV.len,j4,z0u,l4,l5,l6,m8,m9,n5,d24]
 refine⟨(),⟨0,by omega,rfl,?_⟩,fun j hj=>⟨fun hl=>?_,fun hl=>?_⟩⟩
 ·rw[a4x (n:=(E.length:Int) + R.length) (by omega) (by omega),a4x (by omega) (by omega)]
  rfl
 ·simp only[z0d,z1m] at hl
  have hf:=hF (j + 1) (by omega)
  have hj3:j + 1≤a7w M:=by unfold a7w; split <;> omega
  rw[a6g] at hf
  refine⟨⟨by omega,by omega⟩,by omega,j + 1,hj3,by omega,?_,a4x (by omega) (by omega)⟩
  exact a4x (by unfold t8 b49 at *; omega) (by unfold t8 b49 at *; omega)
 ·have hj2:j=a7w M:=by
   have:¬ (j < M.length∧j < 100):=fun hc=>by
    have:(decide ((j:Int) < M.length) && decide ((j:Int) < 100))=true:=by simp; omega
    rw[this] at hl; cases hl
   unfold a7w at hj ⊢
   split <;> rename_i h <;> simp only[h,if_true,if_false] at hj <;> omega
  subst hj2
  rfl
theorem n9 (nm:List (Option AV)):CallOk Tryz.prog [] 9 (q6 EL none nm [PG,.lf .i] d7k):=z4 Tryz.func9 fo9 fun av pre rv h=>by
 unfold d7k at h; split at h <;> cases h
 exact⟨⟨rfl,fun t a e=>by cases e <;> exact z0h _ _⟩,fun hp=>⟨_,v9 _ _ _ _ (hp _ (.head _)),rfl,v4,v5⟩⟩
theorem e06:s5 Tryz.prog 102:=⟨Tryz.f102,Tryz.func102,by kernel_rfl,by kernel_rfl⟩
def d5g (a x k o:Int):Prop:=s4 (({}:Kit)).tab Tryz.f102 [.i .i64 a,.i .i64 x,.i .i64 k,.i .i64 o] [] (m4 (a5o (ev4 a x k o)))
theorem d3q (a x k o:Int):d5g a x k o=(a=(ev4 a x k o).ag∧x=(ev4 a x k o).ix∧k=(ev4 a x k o).k∧o=(ev4 a x k o).ob∧(-1:Int)=(ev4 a x k o).mu∧(-1:Int)=(ev4 a x k o).en∧(2:Int)=(ev4 a x k o).od∧(0:Int)=(ev4 a x k o).rd∧(0:Int)=(ev4 a x k o).wr):=by kernel_rfl
theorem v102 (a x k o:Int) :d5g a x k o:=by
 rw[d3q]
 exact⟨rfl,rfl,rfl,rfl,rfl,rfl,rfl,rfl,rfl⟩
theorem n102 (nm:List (Option AV)):CallOk Tryz.prog [] 102 (q6 EL none nm [.lf .i,.lf .i,.lf .i,.lf .i] d7i):=z4 Tryz.func102 e06 fun av pre rv h=>by
 unfold d7i at h; split at h <;> cases h
 exact⟨⟨rfl,fun t a e=>by cases e <;> exact z0h _ _⟩,fun hp=>⟨_,v102 _ _ _ _ ,rfl,v4,v5⟩⟩
theorem b64 {P:Nat→Prop} (h0:P 0) (h1:P 1) (h2:P 2) (h3:P 3):∀ j,j < exE.length→P j:=fun j hj=>by
 have hj:j < 4:=hj
 match j,hj with
 | 0,_=>exact h0
 | 1,_=>exact h1
 | 2,_=>exact h2
 | 3,_=>exact h3
theorem all2 {P:Nat→Prop} (h0:P 0) (h1:P 1):∀ j,j < exM.length→P j:=fun j hj=>by
 have hj:j < 2:=hj
 match j,hj with
 | 0,_=>exact h0
 | 1,_=>exact h1
theorem fo44:s5 Tryz.prog 44:=⟨Tryz.f44,Tryz.func44,by kernel_rfl,by kernel_rfl⟩
def q44D :Prop:=s4 (({ calls:=[kEv4 []] }:Kit)).tab Tryz.f44 [] [] ((QV.gr none exE exR exM).post EL)
theorem d8u :q44D =(
 let a:=(1:Int)
 let b:=(0:Int)
 let c:=ev4 b b (2:Int) b
 let d:=ev4 b a (2:Int) a
 let e:=ev4 a b a a
 let f:=ev4 a a a b
 let g:=(1:Nat)
 g=g∧g=g∧((4:Nat)=exE.length∧(4:Nat)=exE.length∧(∀(j:Nat),j < exE.length→g8 [c.ag,d.ag,e.ag,f.ag] j=(b7 e0 exE j).ag)∧(∀(j:Nat),j < exE.length→g8 [c.ix,d.ix,e.ix,f.ix] j=(b7 e0 exE j).ix)∧(∀(j:Nat),j < exE.length→g8 [c.k,d.k,e.k,f.k] j=(b7 e0 exE j).k)∧(∀(j:Nat),j < exE.length→g8 [c.ob,d.ob,e.ob,f.ob] j=(b7 e0 exE j).ob)∧(∀(j:Nat),j < exE.length→g8 [c.mu,d.mu,e.mu,f.mu] j=(b7 e0 exE j).mu)∧(∀(j:Nat),j < exE.length→g8 [c.en,d.en,e.en,f.en] j=(b7 e0 exE j).en)∧(∀(j:Nat),j < exE.length→g8 [c.od,d.od,e.od,f.od] j=(b7 e0 exE j).od)∧(∀(j:Nat),j < exE.length→g8 [c.rd,d.rd,e.rd,f.rd] j=(b7 e0 exE j).rd)∧(∀(j:Nat),j < exE.length→g8 [c.wr,d.wr,e.wr,f.wr] j=(b7 e0 exE j).wr)∧True)∧((4:Nat)=exR.length∧(4:Nat)=exR.length∧(∀(j:Nat),j < exR.length→g8 [(-2:Int),(-2:Int),a,(-1:Int)] j=b7 b exR j)∧True)∧(2:Nat)=exM.length∧(2:Nat)=exM.length∧((∀(j:Nat),j < exM.length→u4 g g g j=(b7 [] exM j).length)∧(∀(j:Nat),j < exM.length→∀(i:Nat),i < (b7 [] exM j).length→u4 (g8 [b]) (g8 [a]) (g8 [a]) j i=b7 b (b7 [] exM j) i)∧True)∧True):=by kernel_rfl
theorem v44  :q44D :=by
 rw[d8u]
 simp only[eq_self,true_and,and_true,z0o,imp_self,o6,o8,p7,i7,i9,PLoop.of,s8,AV.len,j4,z0u,l4,l5,l6,m8,m9,n5]
 refine⟨⟨rfl,rfl,b64 rfl rfl rfl rfl,b64 rfl rfl rfl rfl,b64 rfl rfl rfl rfl,b64 rfl rfl rfl rfl,b64 rfl rfl rfl rfl,b64 rfl rfl rfl rfl,b64 rfl rfl rfl rfl,b64 rfl rfl rfl rfl,b64 rfl rfl rfl rfl⟩,⟨rfl,rfl,b64 rfl rfl rfl rfl⟩,rfl,rfl,all2 rfl rfl,all2 (fun i hi=>?_) (fun i hi=>?_)⟩
 ·have hi:i < 1:=hi
  match i,hi with
  | 0,_=>rfl
 ·have hi:i < 1:=hi
  match i,hi with
  | 0,_=>rfl
theorem n44 (nm:List (Option AV)):CallOk Tryz.prog [] 44 (q6 EL none nm [] d7j):=z4 Tryz.func44 fo44 fun av pre rv h=>by
 unfold d7j at h; split at h <;> cases h
 exact⟨⟨rfl,fun t a e=>by cases e <;> exact z0h _ _⟩,fun hp=>⟨_,v44 ,rfl,(o5 (n102 _) v4),v5⟩⟩
def d0l:SpG:=fun
 | [.ag [.es E,.is R,.rs M],.lf (.i n)]=>some ([SzG E M∧(E.length:Int) < n],.gr (some (bif b8 E R M then 2 else 1)) [] [] [])
 | _=>none
def e1n (nm:List (Option AV)):Nat × (List MBlk→List SV→Option AR):=(22,q6 EL gbT nm [PG,.lf .i] d0l)
theorem fo22:s5 Tryz.prog 22:=⟨Tryz.f22,Tryz.func22,by kernel_rfl,by kernel_rfl⟩
def d6c (E:List Ev) (R:List Int) (M:List (List Int)) (n:Int):Prop:=s4 (({ g:=true,calls:=[a5d (nmT E R M)] }:Kit)).tab Tryz.f22 [b2r E R M,.i .i64 n] (grT E R M) ((QV.gr (some (bif b8 E R M then 2 else 1)) [] [] []).post EL)
theorem d4x (E:List Ev) (R:List Int) (M:List (List Int)) (n:Int):d6c E R M n=(
 let a:=decide (n < (0:Int)) || decide (n > (↑E.length:Int))
 let b:=([]:List Pq)
 let c:=(0:Nat)
 some tbl=some tbl∧E.length=E.length∧R.length=R.length∧M.length=M.length∧nE E∧nI R∧nR M∧(E.length≤(1099511627776:Nat)∧(M.length≤(8:Nat)→∀(r:List Int),List.Mem r M→r.length≤(1099511627776:Nat)))∧((!b8 E R M)=true→((1:Int)=bif b8 E R M then(2:Int) else(1:Int))∧b.length=c∧b.length=c∧b.length=c)∧((!b8 E R M)=false→(a=true→((2:Int)=bif b8 E R M then(2:Int) else(1:Int))∧b.length=c∧b.length=c∧b.length=c)∧(a=false→False))):=by kernel_rfl
theorem v22a (E:List Ev) (R:List Int) (M:List (List Int)) (n:Int) (h:SzG E M∧(E.length:Int) < n):d6c E R M n:=by
 rw[d4x]
 simp only[eq_self,true_and,and_true,z0o,imp_self,o6,o8,p7,i7,i9,PLoop.of,s8,AV.len,j4,z0u,l4,l5,l6,m8,m9,n5]
 refine⟨⟨h.1.1,h.1.2⟩,fun hv=>?_,fun hv=>⟨fun _=>?_,fun hc=>?_⟩⟩
 ·simp only[z0v] at hv
  rw[hv]; exact⟨rfl,rfl,rfl,rfl⟩
 ·simp only[z3b] at hv
  rw[hv]; exact⟨rfl,rfl,rfl,rfl⟩
 ·have:=h.2
  simp at hc
  omega
theorem n22a (nm:List (Option AV)):CallOk Tryz.prog GL 22 (q6 EL gbT nm [PG,.lf .i] d0l):=a5i Tryz.func22 fo22 fun av pre rv h=>by
 unfold d0l at h; split at h <;> cases h
 exact⟨⟨rfl,fun t a e=>by cases e <;> exact z0h _ _⟩,fun hp=>⟨_,v22a _ _ _ _ (hp _ (.head _)),rfl,(o5 (n33 _) v4),v5⟩⟩
def c2e:List Int:=[-2,-2,1,3]
def exV (l:List Pq):List Pq:=n6 (b8 exE exR exM) l
def a9i:List Pq:=exV (b9 exE.length (poG exE exR exM))
def b48:List Pq:=exV (b9 exE.length (rfG exE exR exM))
def a9j:List Pq:=exV (b9 exE.length (a03 exE exR exM))
def b47:List Pq:=exV (b9 exE.length (l7 exE exR exM))
def a7l:List Pq:=exV (a42 exE.length (poG exE exR exM) (j7 exE exR exM) (a03 exE exR exM))
def b2p:List Pq:=exV (a42 exE.length (rfG exE exR exM) (l8 exE exR exM) (l7 exE exR exM))
def b2q:List (Option AV):=[none,some (.es exE),some (.is exR),some (.rs exM),none,some (.ps a9i),none,some (.ps b48),none,some (.ps a9j),none,some (.ps b47),none,some (.ps a7l),none,some (.ps b2p),none,some (.es exE),some (.is c2e),some (.rs exM)]
def d79:SpG:=fun | []=>some ([],plB true) | _=>none
def kAwk (nm:List (Option AV)):Nat × (List MBlk→List SV→Option AR):=(10,q6 EL gbT nm [] d79)
def kHas (nm:List (Option AV)):Nat × (List MBlk→List SV→Option AR):=(46,a29 EL nm [.r,.i,.i] d0g)
def a7v:Bool:=(bif b8 exE exR exM then(0:Int) else 1) == 0 && (bif b8 exE exR exM then(0:Int) else 1) == 0 && (bif b8 exE exR exM then(0:Int) else 1) == 0 && (bif b8 exE exR exM then(0:Int) else 1) == 0 && (bif b8 exE exR exM then(0:Int) else 1) == 0 && (bif b8 exE exR exM then(0:Int) else 1) == 0 && (bif b8 exE c2e exM then(0:Int) else 1) == 1 && (bif b8 exE exR exM then(2:Int) else 1) == 2
def exN:Int:=bif b8 exE exR exM then exE.length else 0
def b85:Bool:=a7v && b8 exE exR exM && a6a exN a9i 4 (mkN (fun j=>(g8 [0,2] j,g8 [1,3] j)) 2) && a6a exN b48 4 (mkN (fun j=>(g8 [1] j,g8 [2] j)) 1)
def c2f:Bool:=b85 && a6a exN a9j 4 (mkN (fun j=>(g8 [1] j,g8 [2] j)) 1) && a6a exN b47 4 (mkN (fun j=>(g8 [3] j,g8 [0] j)) 1)
def a33:Bool:=c2f && (g7 exN a7l && f7 a7l 0 3) && (g7 exN b2p && f7 b2p 3 0)
theorem e03:(a33 && a0h exE exR exM exE exR exM == 0 && a0h exE c2e exM exE exR exM == -1)=true:=by kernel_rfl
theorem exSz:SzG exE exM:=⟨z1t (by kernel_rfl:Nat.ble exE.length 1099511627776=true),fun _ r hr=>by
 have:r∈exM:=hr
 simp only[exM,z0q,List.not_mem_nil,or_false] at this
 rcases this with rfl | rfl <;> decide⟩
theorem fo10:s5 Tryz.prog 10:=⟨Tryz.f10,Tryz.func10,by kernel_rfl,by kernel_rfl⟩
def q10D :Prop:=s4 (({ g:=true,calls:=[kExa [],c2l 25 (a5k poG) b2q,c2l 27 (a5k rfG) b2q,c2l 13 (a5k a03) b2q,c2l 11 (a5k l7) b2q,c2l 15 (b1y poG j7 a03) b2q,c2l 17 (b1y rfG l8 l7) b2q,c2l 29 (a5k l8) b2q,e1n b2q,a5d b2q,kPrs b2q,kHas b2q,c8g b2q] }:Kit)).tab Tryz.f10 [] [tbl] (m4 (.b true))
theorem d8e :q10D =(
 let a:=a33 && a0h exE exR exM exE exR exM ==(0:Int)
 let b:=(1099511627776:Nat)
 let c:=q7 [] (q7 [] (q7 [] (q7 [] (q7 [] (q7 [] (q7 [] (q7 [] (q7 [] tbl))))))))
 let d:=(0:Int)
 let e:=c2f && (g7 exN a7l && f7 a7l d (3:Int))
 let f:=q7 [] (q7 [] (q7 [] tbl))
 let g:=b8 exE exR exM
 let h:=(↑exE.length:Int)
 let i:=a7v && b8 exE exR exM
 let k:=(8:Nat)
 let l:=(3:Int)
 let m:=q7 [] (q7 [] (q7 [] c))
 let n:=(1:Nat)
 let o:=(4:Int)
 let p:=(2:Int)
 let q:=(1:Int)
 let s:=(a33)=true→exE.length=exE.length
 let t:=(a33)=true→exR.length=exR.length
 let u:=(a33)=true→exM.length=exM.length
 let v:=a=true→exE.length=exE.length
 let w:=a=true→exR.length=exR.length
 let y:=a=true→exM.length=exM.length
 let z:=(2:Nat)
 some (q7 [] tbl)=some tbl∧exE.length=exE.length∧exR.length=exR.length∧exM.length=exM.length∧nE exE∧nI exR∧nR exM∧(exE.length≤b∧(exM.length≤k→∀(r:List Int),List.Mem r exM→r.length≤b))∧n6 g (b9 h (poG exE exR exM))=a9i∧some (q7 [] (q7 [] tbl))=some tbl∧exE.length=exE.length∧exR.length=exR.length∧exM.length=exM.length∧nE exE∧nI exR∧nR exM∧(exE.length≤b∧(exM.length≤k→∀(r:List Int),List.Mem r exM→r.length≤b))∧n6 g (b9 h (rfG exE exR exM))=b48∧some f=some tbl∧exE.length=exE.length∧exR.length=exR.length∧exM.length=exM.length∧nE exE∧nI exR∧nR exM∧(exE.length≤b∧(exM.length≤k→∀(r:List Int),List.Mem r exM→r.length≤b))∧n6 g (b9 h (a03 exE exR exM))=a9j∧some (q7 [] f)=some tbl∧exE.length=exE.length∧exR.length=exR.length∧exM.length=exM.length∧nE exE∧nI exR∧nR exM∧(exE.length≤b∧(exM.length≤k→∀(r:List Int),List.Mem r exM→r.length≤b))∧n6 g (b9 h (l7 exE exR exM))=b47∧some (q7 [] (q7 [] f))=some tbl∧exE.length=exE.length∧exR.length=exR.length∧exM.length=exM.length∧nE exE∧nI exR∧nR exM∧(exE.length≤b∧(exM.length≤k→∀(r:List Int),List.Mem r exM→r.length≤b))∧n6 g (a42 exE.length (poG exE exR exM) (j7 exE exR exM) (a03 exE exR exM))=a7l∧some (q7 [] (q7 [] (q7 [] f)))=some tbl∧exE.length=exE.length∧exR.length=exR.length∧exM.length=exM.length∧nE exE∧nI exR∧nR exM∧(exE.length≤b∧(exM.length≤k→∀(r:List Int),List.Mem r exM→r.length≤b))∧n6 g (a42 exE.length (rfG exE exR exM) (l8 exE exR exM) (l7 exE exR exM))=b2p∧(d≤l∧l < (↑exR.length:Int))∧Int.toNat l < exR.length∧some c=some
 tbl∧exE.length=exE.length∧exR.length=exR.length∧exM.length=exM.length∧nE exE∧mkN (fun(j:Nat)=>bif j.beq (Int.toNat l) then l else b7 d exR j) exR.length=c2e∧nR exM∧(exE.length≤b∧(exM.length≤k→∀(r:List Int),List.Mem r exM→r.length≤b))∧some (q7 [] c)=some tbl∧exE.length=exE.length∧exR.length=exR.length∧exM.length=exM.length∧nE exE∧nI exR∧nR exM∧((exE.length≤b∧(exM.length≤k→∀(r:List Int),List.Mem r exM→r.length≤b))∧h < (5:Int))∧((a7v)=true→some m=some tbl)∧((a7v)=true→exE.length=exE.length)∧((a7v)=true→exR.length=exR.length)∧((a7v)=true→exM.length=exM.length)∧((a7v)=true→nE exE)∧((a7v)=true→nI exR)∧((a7v)=true→nR exM)∧((a7v)=true→exE.length≤b∧(exM.length≤k→∀(r:List Int),List.Mem r exM→r.length≤b))∧(i=true→(AV.ps a9i).len=(AV.ps a9i).len)∧(i=true→mkN (fun(j:Nat)=>((b7 (d,d) a9i j).fst,(b7 (d,d) a9i j).snd)) (AV.ps a9i).len=a9i)∧(i=true→z=z)∧(i=true→a9i.length≤b)∧((a7v && b8 exE exR exM && a6a exN a9i o (mkN (fun(j:Nat)=>(g8 [d,p] j,g8 [q,l] j)) z))=true→(AV.ps b48).len=(AV.ps b48).len)∧((a7v && b8 exE exR exM && a6a exN a9i o (mkN (fun(j:Nat)=>(g8 [d,p] j,g8 [q,l] j)) z))=true→mkN (fun(j:Nat)=>((b7 (d,d) b48 j).fst,(b7 (d,d) b48 j).snd)) (AV.ps b48).len=b48)∧((a7v && b8 exE exR exM && a6a exN a9i o (mkN (fun(j:Nat)=>(g8 [d,p] j,g8 [q,l] j)) z))=true→n=n)∧((a7v && b8 exE exR exM && a6a exN a9i o (mkN (fun(j:Nat)=>(g8 [d,p] j,g8 [q,l] j)) z))=true→b48.length≤b)∧((b85)=true→(AV.ps a9j).len=(AV.ps a9j).len)∧((b85)=true→mkN (fun(j:Nat)=>((b7 (d,d) a9j j).fst,(b7 (d,d) a9j j).snd))
 (AV.ps a9j).len=a9j)∧((b85)=true→n=n)∧((b85)=true→a9j.length≤b)∧((b85 && a6a exN a9j o (mkN (fun(j:Nat)=>(g8 [q] j,g8 [p] j)) n))=true→(AV.ps b47).len=(AV.ps b47).len)∧((b85 && a6a exN a9j o (mkN (fun(j:Nat)=>(g8 [q] j,g8 [p] j)) n))=true→mkN (fun(j:Nat)=>((b7 (d,d) b47 j).fst,(b7 (d,d) b47 j).snd)) (AV.ps b47).len=b47)∧((b85 && a6a exN a9j o (mkN (fun(j:Nat)=>(g8 [q] j,g8 [p] j)) n))=true→n=n)∧((b85 && a6a exN a9j o (mkN (fun(j:Nat)=>(g8 [q] j,g8 [p] j)) n))=true→b47.length≤b)∧((c2f)=true→(AV.ps a7l).len=(AV.ps a7l).len)∧((c2f)=true→mkN (fun(j:Nat)=>((b7 (d,d) a7l j).fst,(b7 (d,d) a7l j).snd)) (AV.ps a7l).len=a7l)∧((c2f)=true→a7l.length≤b)∧(e=true→(AV.ps b2p).len=(AV.ps b2p).len)∧(e=true→mkN (fun(j:Nat)=>((b7 (d,d) b2p j).fst,(b7 (d,d) b2p j).snd)) (AV.ps b2p).len=b2p)∧(e=true→b2p.length≤b)∧((a33)=true→some m=some tbl)∧s∧t∧u∧((a33)=true→nE exE)∧((a33)=true→nI exR)∧((a33)=true→nR exM)∧s∧t∧u∧((a33)=true→nE exE)∧((a33)=true→nI exR)∧((a33)=true→nR exM)∧((a33)=true→exE.length≤b∧(exM.length≤k→∀(r:List Int),List.Mem r exM→r.length≤b))∧((a33)=true→exE.length≤b∧(exM.length≤k→∀(r:List Int),List.Mem r exM→r.length≤b))∧(a=true→some m=some tbl)∧v∧w∧y∧(a=true→nE exE)∧(a=true→mkN (fun(j:Nat)=>bif j.beq (Int.toNat l) then l else b7 d exR j) exR.length=c2e)∧(a=true→nR exM)∧v∧w∧y∧(a=true→nE exE)∧(a=true→nI exR)∧(a=true→nR exM)∧(a=true→exE.length≤b∧(exM.length≤k→∀(r:List Int),List.Mem r exM→r.length≤b))∧(a=true→exE.length≤b∧(exM.length≤k→∀(r:List Int),List.Mem r exM→r.length≤b))∧(a33 && a0h
 exE exR exM exE exR exM ==d && a0h exE c2e exM exE exR exM ==(-1:Int))=true):=by kernel_rfl
theorem v10  :q10D :=by
 rw[d8e]
 simp only[eq_self,true_and,and_true,z0o,imp_self,o6,o8,p7,i7,i9,PLoop.of,s8,AV.len,j4,z0u,l4,l5,l6,m8,m9,n5]
 have hS:=exSz
 have hS:exE.length≤1099511627776∧(exM.length≤8→∀ r:List Int,List.Mem r exM→r.length≤1099511627776):=⟨hS.1,hS.2⟩
 have hR:mkN (fun j=>bif j.beq (Int.toNat 3) then 3 else b7 0 exR j) exR.length=c2e:=by kernel_rfl
 exact⟨hS,rfl,hS,rfl,hS,rfl,hS,rfl,hS,rfl,hS,rfl,⟨by decide,by decide⟩,by decide,hR,hS,⟨hS,by decide⟩,fun _=>hS,fun _=>z1t (by kernel_rfl:Nat.ble a9i.length 1099511627776=true),fun _=>z1t (by kernel_rfl:Nat.ble b48.length 1099511627776=true),fun _=>z1t (by kernel_rfl:Nat.ble a9j.length 1099511627776=true),fun _=>z1t (by kernel_rfl:Nat.ble b47.length 1099511627776=true),fun _=>z1t (by kernel_rfl:Nat.ble a7l.length 1099511627776=true),fun _=>z1t (by kernel_rfl:Nat.ble b2p.length 1099511627776=true),fun _=>hS,fun _=>hS,fun _=>hR,fun _=>hS,fun _=>hS,e03⟩
theorem n10 (nm:List (Option AV)):CallOk Tryz.prog GL 10 (q6 EL gbT nm [] d79):=a5i Tryz.func10 fo10 fun av pre rv h=>by
 unfold d79 at h; split at h <;> cases h
 exact⟨⟨rfl,fun t a e=>by cases e <;> exact z0h _ _⟩,fun hp=>⟨_,v10 ,rfl,(o5 (a1n (n44 _)) (o5 (n25 _) (o5 (n27 _) (o5 (n13 _) (o5 (n11 _) (o5 (n15 _) (o5 (n17 _) (o5 (n29 _) (o5 (n22a _) (o5 (n33 _) (o5 (a1n (n45 _)) (o5 (a1n (n46 _)) (o5 (n42 _) v4))))))))))))),v5⟩⟩
end Go.Proofs.YtaeeaniofljmnaaGreatDoor

/-
  A part of the proof (G51a).
-/
import Derived.Test.YtaeeaniofljmnaaGreatDoorG46a
namespace Go.Proofs.YtaeeaniofljmnaaGreatDoor
set_option linter.unusedSimpArgs false
set_option linter.unusedVariables false
open Go Go.Proofs.YtaeeaniofljmnaaGreatDoor.Sx
set_option maxRecDepth 100000
theorem d3v {E:List Ev} {R:List Int} {M:List (List Int)} (h:SzG E M):(noE E R M).length≤1099511627776∧(noR E R M).length≤1099511627776∧(noM E R M).length≤1099511627776∧∀ r:List Int,List.Mem r (noM E R M)→r.length≤1099511627776:=by
 unfold noE noR noM
 cases hk:o9 E R M
 ·simp only[v4,z0l]
  exact⟨by simp,by simp,by simp,fun r h=>nomatch h⟩
 ·simp only[o9,z0d] at hk
  obtain⟨hG,hN⟩:=a02 hk.1 h
  obtain⟨hM,hR⟩:=a3i hk.1
  simp only[v4,z0g,arE,arR,arM,z3p,v8,a4z]
  refine⟨by omega,by omega,by omega,fun r hr=>?_⟩
  obtain⟨q,hq,rfl⟩:=z2k.1 (show r∈_ from hr)
  rw[z3p]
  exact h.2 hM q hq
theorem or3 (a b c:Int):orF (mkN (e8 [a,b,c]) 3)=orF [a,b,c]:=rfl
theorem fo42:o6 Tryz.prog 42:=⟨Tryz.f42,Tryz.func42,by kernel_rfl,by kernel_rfl⟩
def q42D (E:List Ev) (R:List Int) (M:List (List Int)) (E':List Ev) (R':List Int) (M':List (List Int)):Prop:=n7 (({ g:=true,calls:=[d86 (c6r E R M E' R' M'),kCmF (c6r E R M E' R' M'),kCmL (c6r E R M E' R' M'),kCmM (c6r E R M E' R' M'),kOr (c6r E R M E' R' M')] }:Kit)).tab Tryz.f42 [b1x E R M,d8s E' R' M'] (grT2 E R M E' R' M') (j9 (.i .i64 (a3e E R M E' R' M')))
theorem d5e (E:List Ev) (R:List Int) (M:List (List Int)) (E':List Ev) (R':List Int) (M':List (List Int)):q42D E R M E' R' M'=(some tbl=some tbl∧E.length=E.length∧R.length=R.length∧M.length=M.length∧nE E∧nI R∧nR M∧(E.length≤(1099511627776:Nat)∧(M.length≤(8:Nat)→∀(r:List Int),List.Mem r M→r.length≤(1099511627776:Nat)))∧some (l4 [] tbl)=some tbl∧E'.length=E'.length∧R'.length=R'.length∧M'.length=M'.length∧mkN (fun(j:Nat)=>b6 e0 E' j) E'.length=E'∧mkN (b6 (0:Int) R') R'.length=R'∧mkN (fun(j:Nat)=>mkN (fun(i:Nat)=>b6 (0:Int) (b6 [] M' j) i) (b6 [] M' j).length) M'.length=M'∧(E'.length≤(1099511627776:Nat)∧(M'.length≤(8:Nat)→∀(r:List Int),List.Mem r M'→r.length≤(1099511627776:Nat)))∧((a3n E R M != (0:Int) && a3n E' R' M' != (0:Int))=true→(0:Int)=a3e E R M E' R' M')∧((a3n E R M != (0:Int) && a3n E' R' M' != (0:Int))=false→((a3n E R M != (0:Int))=true→(-1:Int)=a3e E R M E' R' M')∧((a3n E R M != (0:Int))=false→((a3n E' R' M' != (0:Int))=true→(1:Int)=a3e E R M E' R' M')∧((a3n E' R' M' != (0:Int))=false→(v4 (o9 E R M) (arE E (v8 E R M))).length=(v4 (o9 E R M) (arE E (v8 E R M))).length∧mkN (fun(j:Nat)=>b6 e0 (v4 (o9 E R M) (arE E (v8 E R M))) j) (v4 (o9 E R M) (arE E (v8 E R M))).length=noE E R M∧(v4 (o9 E' R' M') (arE E' (v8 E' R' M'))).length=(v4 (o9 E' R' M') (arE E' (v8 E' R' M'))).length∧mkN (fun(j:Nat)=>b6 e0 (v4 (o9 E' R' M')
 (arE E' (v8 E' R' M'))) j) (v4 (o9 E' R' M') (arE E' (v8 E' R' M'))).length=noE E' R' M'∧(noE E R M).length≤(1099511627776:Nat)∧(v4 (o9 E R M) (arR R (v8 E R M))).length=(v4 (o9 E R M) (arR R (v8 E R M))).length∧mkN (b6 (0:Int) (v4 (o9 E R M) (arR R (v8 E R M)))) (v4 (o9 E R M) (arR R (v8 E R M))).length=noR E R M∧(v4 (o9 E' R' M') (arR R' (v8 E' R' M'))).length=(v4 (o9 E' R' M') (arR R' (v8 E' R' M'))).length∧mkN (b6 (0:Int) (v4 (o9 E' R' M') (arR R' (v8 E' R' M')))) (v4 (o9 E' R' M') (arR R' (v8 E' R' M'))).length=noR E' R' M'∧(noR E R M).length≤(1099511627776:Nat)∧(v4 (o9 E R M) (arM M (v8 E R M))).length=(v4 (o9 E R M) (arM M (v8 E R M))).length∧mkN (fun(j:Nat)=>mkN (fun(i:Nat)=>b6 (0:Int) (b6 [] (v4 (o9 E R M) (arM M (v8 E R M))) j) i) (b6 [] (v4 (o9 E R M) (arM M (v8 E R M))) j).length) (v4 (o9 E R M) (arM M (v8 E R M))).length=noM E R M∧(v4 (o9 E' R' M') (arM M' (v8 E' R' M'))).length=(v4 (o9 E' R' M') (arM M' (v8 E' R' M'))).length∧mkN (fun(j:Nat)=>mkN (fun(i:Nat)=>b6 (0:Int) (b6 [] (v4 (o9 E' R' M') (arM M' (v8 E' R' M'))) j) i) (b6 [] (v4 (o9 E' R' M') (arM M' (v8 E' R' M'))) j).length) (v4 (o9 E' R' M') (arM M' (v8 E' R' M'))).length=noM E' R' M'∧(((noM E R M).length≤(1099511627776:Nat)∧(noM E' R' M').length≤(1099511627776:Nat)) ∧
 ∀(r:List Int),List.Mem r (noM E R M)→r.length≤(1099511627776:Nat))∧(3:Nat)=(3:Nat)∧(mkN (e8 [z8 a5r (noE E R M) (noE E' R' M'),z8 o7 (noR E R M) (noR E' R' M'),b3b (noM E R M) (noM E' R' M')]) (3:Nat)).length≤(1099511627776:Nat)∧orF (mkN (e8 [z8 a5r (noE E R M) (noE E' R' M'),z8 o7 (noR E R M) (noR E' R' M'),b3b (noM E R M) (noM E' R' M')]) (3:Nat))=a3e E R M E' R' M')))):=by kernel_rfl
theorem v42 (E:List Ev) (R:List Int) (M:List (List Int)) (E':List Ev) (R':List Int) (M':List (List Int)) (h:SzG E M) (h':SzG E' M'):q42D E R M E' R' M':=by
 rw[d5e]
 simp only[eq_self,true_and,and_true,z0n,imp_self,l7,l8,n6,g7,g9,PLoop.of,p9,AV.len,i5,z0s,j4,j7,j6,l9,m4,m5]
 have h1:=d3v (R:=R) h
 have h2:=d3v (R:=R') h'
 refine⟨⟨h.1,h.2⟩,⟨h'.1,h'.2⟩,fun hc=>?_,fun hc=>⟨fun hd=>?_,fun hd=>⟨fun he=>?_,fun he=>?_⟩⟩⟩
 ·simp only[z0d] at hc
  simp[a3e,hc]
 ·rw[hd,z1l] at hc
  simp[a3e,hd,hc]
 ·simp[a3e,hd,he]
 refine⟨rfl,rfl,h1.1,rfl,rfl,h1.2.1,rfl,rfl,⟨⟨h1.2.2.1,h2.2.2.1⟩,h1.2.2.2⟩,by omega,?_⟩
 rw[or3]
 simp[a3e,hd,he]
theorem n42 (nm:List (Option AV)):CallOk Tryz.prog GL 42 (o5 EL gbT nm [PG,PG] c62):=a55 Tryz.func42 fo42 fun av pre rv h=>by
 unfold c62 at h; split at h <;> cases h
 exact⟨⟨rfl,fun t a e=>by cases e <;> exact z0h _ _⟩,fun hp=>⟨_,v42 _ _ _ _ _ _ (hp _ (.head _)) (hp _ (.tail _ (.head _))),rfl,(m6 (n20 _) (m6 (a1f (n97 _)) (m6 (a1f (n99 _)) (m6 (a1f (n92 _)) (m6 (a1f (n96 _)) t8))))),t9⟩⟩
def b04 (l m:List Pq):Nat→Bool
 | 0=>true
 | j + 1=>b04 l m j && ((b6 (0,0) l j).1 == (b6 (0,0) m j).1 && (b6 (0,0) l j).2 == (b6 (0,0) m j).2)
def y6 (N:Int) (l:List Pq) (N':Int) (m:List Pq):Bool:=!(N != N' || (l.length:Int) != (m.length:Int)) && b04 l m l.length
def d1a (l m:List Pq) (t:Nat):LAnn:=p9 l.length t (fun j=>b04 l m j=true) (fun _=>[]) []
def d6n:SpP:=fun | [.lf (.r N l),.lf (.r N' m)]=>some ([L9 l],plB (y6 N l N' m)) | _=>none
def kPrs (nm:List (Option AV)):Nat × (List MBlk→List SV→Option AR):=(45,o5 EL none nm [.lf .r,.lf .r] d6n)
def d78:SpP:=fun | [.lf (.r N l),.lf (.i e),.lf (.r N' m),.lf (.i e')]=>some ([L9 l],plB (y6 N l N' m && e == e')) | _=>none
def kAgr (nm:List (Option AV)):Nat × (List MBlk→List SV→Option AR):=(19,o5 EL none nm [.lf .r,.lf .i,.lf .r,.lf .i] d78)
def a63 (M:List (List Int)) (x:Int):Nat→Int
 | 0=>x
 | j + 1=>a63 M x j + (a0h M j).length
def b3c (E:List Ev) (R:List Int) (M:List (List Int)):Nat→Int:=a63 M ((E.length:Int) + R.length + M.length)
def a7i (M:List (List Int)):Nat:=if M.length < 100 then M.length else 100
def c4b (E:List Ev) (R:List Int) (M:List (List Int)) (n:Int):Bool:=decide (b3c E R M (a7i M)≤n)
def d0e (E:List Ev) (R:List Int) (M:List (List Int)) (t s:Nat):LAnn:={ X:=Nat,inv:=fun j=>j≤a7i M,slots:=fun j=>[(t,.i .i64 (j:Int)),(s,.i .i64 (b3c E R M j))],mem:=fun _=>[],mu:=fun j=>a7i M - j,kill:=[] }
def SzF (E:List Ev) (R:List Int) (M:List (List Int)):Prop:=(E.length≤17592186044416∧R.length≤17592186044416∧M.length≤17592186044416)∧∀ r∈M,r.length≤17592186044416
def d5j:SpP:=fun | [.ag [.es E,.is R,.rs M],.lf (.i n)]=>some ([SzF E R M],plB (c4b E R M n)) | _=>none
def kFew (nm:List (Option AV)):Nat × (List MBlk→List SV→Option AR):=(9,o5 EL none nm [PG,.lf .i] d5j)
def exE:List Ev:=[⟨0,0,2,0,-1,-1,2,0,0⟩,⟨0,1,2,1,-1,-1,2,0,0⟩,⟨1,0,1,1,-1,-1,2,0,0⟩,⟨1,1,1,0,-1,-1,2,0,0⟩]
def exR:List Int:=[-2,-2,1,-1]
def exM:List (List Int):=[[0],[1]]
def ev4 (a x k o:Int):Ev:=⟨a,x,k,o,-1,-1,2,0,0⟩
def d4s:SpP:=fun | [.lf (.i a),.lf (.i x),.lf (.i k),.lf (.i o)]=>some ([],.rv (.pl (a5y (ev4 a x k o)))) | _=>none
def kEv4 (nm:List (Option AV)):Nat × (List MBlk→List SV→Option AR):=(102,o5 EL none nm [.lf .i,.lf .i,.lf .i,.lf .i] d4s)
def d4t:SpG:=fun | []=>some ([],.gr none exE exR exM) | _=>none
def kExa (nm:List (Option AV)):Nat × (List MBlk→List SV→Option AR):=(44,o5 EL none nm [] d4t)
theorem c3x {l m:List Pq} {k:Nat} (h:b04 l m k=true):∀ d j,j + d=k→b04 l m j=true:=by
 intro d
 induction d generalizing k with
 | zero=>intro j e; subst e; exact h
 | succ d ih =>
  intro j e
  obtain⟨k,rfl⟩:∃ k',k=k' + 1:=⟨j + d,by omega⟩
  simp only[b04,z0d] at h
  exact ih h.1 j (by omega)
theorem c7j {M:List (List Int)} (hS:∀ r∈M,r.length≤17592186044416) (x:Int):∀ j,j≤M.length→x≤a63 M x j∧a63 M x j≤x + j * 17592186044416:=by
 intro j
 induction j with
 | zero=>intro _; simp[a63]
 | succ j ih =>
  intro h
  have h1:=ih (by omega)
  have h2:(a0h M j).length≤17592186044416:=hS _ (by unfold a0h; rw[s4 [] M _ (show j < M.length by omega)]; exact z2f _)
  rw[a63]
  omega
theorem c2o (M:List (List Int)) (x:Int):∀ j,x≤a63 M x j:=fun j=>by
 induction j with
 | zero=>simp[a63]
 | succ j ih=>rw[a63]; omega
theorem c5s {M:List (List Int)} (x:Int) {o:Nat}:∀ {j},o < j→x + (a0h M o).length≤a63 M x j:=by
 intro j
 induction j with
 | zero=>intro h; omega
 | succ j ih =>
  intro h
  rw[a63]
  by_cases e:o=j
  ·subst e; have:=c2o M x o; omega
  ·have:=ih (by omega); omega
theorem d5b {E:List Ev} {R:List Int} {M:List (List Int)} (h:c4b E R M 300=true):SzG E M:=by
 have hn:b3c E R M (a7i M)≤300:=z0e h
 refine⟨?_,fun h8 r hr=>?_⟩
 ·have:E.length≤1099511627776:=by
   unfold b3c at hn
   have:(E.length:Int) + R.length + M.length≤a63 M ((E.length:Int) + R.length + M.length) (a7i M):=c2o M _ _
   omega
  exact this
 ·obtain⟨o,ho,rfl⟩:=List.mem_iff_getElem.1 hr
  have h1:a7i M=M.length:=by unfold a7i; rw[if_pos (by omega)]
  rw[h1] at hn
  have:=c5s (M:=M) ((E.length:Int) + R.length + M.length) ho
  unfold b3c at hn
  have e:a0h M o=M[o]:=s4 [] M o ho
  rw[e] at this
  show M[o].length≤1099511627776
  omega
theorem fo45:o6 Tryz.prog 45:=⟨Tryz.f45,Tryz.func45,by kernel_rfl,by kernel_rfl⟩
def q45D (N:Int) (l:List Pq) (N':Int) (m:List Pq):Prop:=n7 (({ loops:=[(0,.of (d1a l m 5))] }:Kit)).tab Tryz.f45 [.agg [.i .i64 N,.sl 0 l.length],.agg [.i .i64 N',.sl 1 m.length]] [.arr l.length (a0e l),.arr m.length (a0e m)] (j9 (.b (y6 N l N' m)))
theorem d5o (N:Int) (l:List Pq) (N':Int) (m:List Pq):q45D N l N' m=(((N != N' || (↑l.length:Int) != (↑m.length:Int))=true→false=y6 N l N' m)∧((N != N' || (↑l.length:Int) != (↑m.length:Int))=false→∃(x:PUnit),(∃(x:Nat),(x≤l.length∧b04 l m x=true)∧((0:Int)=(↑x:Int)∧True)∧True)∧∀(x_1:Nat),x_1≤l.length∧b04 l m x_1=true→(decide ((↑x_1:Int) < (↑l.length:Int))=true→((0:Int)≤(↑x_1:Int)∧(↑x_1:Int) < (↑l.length:Int))∧x_1 < l.length∧((0:Int)≤(↑x_1:Int)∧(↑x_1:Int) < (↑m.length:Int))∧x_1 < m.length∧((!((b6 ((0:Int),(0:Int)) l x_1).fst == (b6 ((0:Int),(0:Int)) m x_1).fst && (b6 ((0:Int),(0:Int)) l x_1).snd == (b6 ((0:Int),(0:Int)) m x_1).snd))=true→false=y6 N l N' m)∧((!((b6 ((0:Int),(0:Int)) l x_1).fst == (b6 ((0:Int),(0:Int)) m x_1).fst && (b6 ((0:Int),(0:Int)) l x_1).snd == (b6 ((0:Int),(0:Int)) m x_1).snd))=false→∃(x_2:Nat),(x_2≤l.length∧b04 l m x_2=true)∧((PLoop.of (d1a l m (5:Nat))).ann x).mu x_2 < ((PLoop.of (d1a l m (5:Nat))).ann x).mu x_1∧((N=N∧l.length=l.length)∧(N'=N'∧m.length=m.length)∧True∧True∧IntKind.i64.wrap ((↑x_1:Int) + (1:Int))=(↑x_2:Int)∧True∧N=N∧True∧N'=N'∧(N != N')=(N != N')∧(N != N')=(N != N')∧false=false∧True)∧eqA l.length (a0e l)∧eqA m.length (a0e m)∧(N=N∧l.length=l.length)∧(N'=N'∧m.length=m.length)∧True))∧(decide ((↑x_1:Int) < (↑l.length:Int))=false →
 true=y6 N l N' m))):=by kernel_rfl
theorem v45 (N:Int) (l:List Pq) (N':Int) (m:List Pq) (h:L9 l):q45D N l N' m:=by
 rw[d5o]
 simp only[eq_self,true_and,and_true,z0n,imp_self,l7,l8,n6,g7,g9,PLoop.of,p9,AV.len,i5,z0s,j4,j7,j6,l9,m4,m5,d1a]
 refine⟨fun hc=>by rw[y6,hc]; rfl,fun hc=>⟨(),⟨0,⟨by omega,rfl⟩,rfl⟩,fun j hj=>⟨fun hlj=>?_,fun hlj=>?_⟩⟩⟩
 ·have hj2:j < l.length:=by have:=z0e hlj; omega
  have hlen:(l.length:Int)=m.length:=by simp at hc; omega
  refine⟨⟨by omega,by omega⟩,hj2,⟨by omega,by omega⟩,by omega,fun hd=>?_,fun hd=>⟨j + 1,⟨by omega,?_⟩,by omega,wrS (n:=l.length) hj2 h⟩⟩
  ·rw[y6,hc,z2y,z1l]
   cases he:b04 l m l.length
   ·rfl
   ·have:=c3x he (l.length - (j + 1)) (j + 1) (by omega)
    rw[b04,z0d] at this
    rw[this.2] at hd
    cases hd
  ·show(b04 l m j && _)=true
   rw[hj.2,z1l]
   simpa using hd
 have hj2:j=l.length:=by have:=z0m hlj; omega
 subst hj2
 rw[y6,hc,hj.2]
 rfl
theorem n45 (nm:List (Option AV)):CallOk Tryz.prog [] 45 (o5 EL none nm [.lf .r,.lf .r] d6n):=x4 Tryz.func45 fo45 fun av pre rv h=>by
 unfold d6n at h; split at h <;> cases h
 exact⟨⟨rfl,fun t a e=>by cases e <;> exact z0h _ _⟩,fun hp=>⟨_,v45 _ _ _ _ (hp _ (.head _)),rfl,t8,t9⟩⟩
theorem fo19:o6 Tryz.prog 19:=⟨Tryz.f19,Tryz.func19,by kernel_rfl,by kernel_rfl⟩
def q19D (N:Int) (l:List Pq) (e:Int) (N':Int) (m:List Pq) (e':Int):Prop:=n7 (({ calls:=[kPrs []] }:Kit)).tab Tryz.f19 [.agg [.i .i64 N,.sl 0 l.length],.i .i64 e,.agg [.i .i64 N',.sl 1 m.length],.i .i64 e'] [.arr l.length (a0e l),.arr m.length (a0e m)] (j9 (.b (y6 N l N' m && e == e')))
theorem d5w (N:Int) (l:List Pq) (e:Int) (N':Int) (m:List Pq) (e':Int):q19D N l e N' m e'=(l.length=l.length∧m.length=m.length∧(mkN (fun(j:Nat)=>((b6 ((0:Int),(0:Int)) l j).fst,(b6 ((0:Int),(0:Int)) l j).snd)) l.length).length≤(1099511627776:Nat)∧(y6 N (mkN (fun(j:Nat)=>((b6 ((0:Int),(0:Int)) l j).fst,(b6 ((0:Int),(0:Int)) l j).snd)) l.length) N' (mkN (fun(j:Nat)=>((b6 ((0:Int),(0:Int)) m j).fst,(b6 ((0:Int),(0:Int)) m j).snd)) m.length) && e == e')=(y6 N l N' m && e == e')):=by kernel_rfl
theorem v19 (N:Int) (l:List Pq) (e:Int) (N':Int) (m:List Pq) (e':Int) (h:L9 l):q19D N l e N' m e':=by
 rw[d5w]
 simp only[eq_self,true_and,and_true,z0n,imp_self,l7,l8,n6,g7,g9,PLoop.of,p9,AV.len,i5,z0s,j4,j7,j6,l9,m4,m5]
 exact h
theorem n19 (nm:List (Option AV)):CallOk Tryz.prog [] 19 (o5 EL none nm [.lf .r,.lf .i,.lf .r,.lf .i] d78):=x4 Tryz.func19 fo19 fun av pre rv h=>by
 unfold d78 at h; split at h <;> cases h
 exact⟨⟨rfl,fun t a e=>by cases e <;> exact z0h _ _⟩,fun hp=>⟨_,v19 _ _ _ _ _ _ (hp _ (.head _)),rfl,(m6 (n45 _) t8),t9⟩⟩
theorem fo9:o6 Tryz.prog 9:=⟨Tryz.f9,Tryz.func9,by kernel_rfl,by kernel_rfl⟩
def q9D (E:List Ev) (R:List Int) (M:List (List Int)) (n:Int):Prop:=n7 (({ loops:=[(0,.of (d0e E R M 6 5))] }:Kit)).tab Tryz.f9 [grV E R M,.i .i64 n] (grM E R M) (j9 (.b (c4b E R M n)))
theorem d91 (E:List Ev) (R:List Int) (M:List (List Int)) (n:Int):q9D E R M n=(∃(x:PUnit),(∃(x:Nat),x≤a7i M∧((0:Int)=(↑x:Int)∧IntKind.i64.wrap (IntKind.i64.wrap ((↑E.length:Int) + (↑R.length:Int)) + (↑M.length:Int))=b3c E R M x∧True)∧True)∧∀(x_1:Nat),x_1≤a7i M→((decide ((↑x_1:Int) < (↑M.length:Int)) && decide ((↑x_1:Int) < (100:Int)))=true→((0:Int)≤(↑x_1:Int)∧(↑x_1:Int) < (↑M.length:Int))∧x_1 < M.length∧∃(x_2:Nat),x_2≤a7i M∧((PLoop.of (d0e E R M (6:Nat) (5:Nat))).ann x).mu x_2 < ((PLoop.of (d0e E R M (6:Nat) (5:Nat))).ann x).mu x_1∧((E.length=E.length∧R.length=R.length∧M.length=M.length)∧n=n∧True∧false=false∧IntKind.i64.wrap (b3c E R M x_1 + (↑(b6 [] M x_1).length:Int))=b3c E R M x_2∧IntKind.i64.wrap ((↑x_1:Int) + (1:Int))=(↑x_2:Int)∧True∧E.length=E.length∧(↑E.length:Int)=(↑E.length:Int)∧True∧R.length=R.length∧(↑R.length:Int)=(↑R.length:Int)∧IntKind.i64.wrap ((↑E.length:Int) + (↑R.length:Int))=IntKind.i64.wrap ((↑E.length:Int) + (↑R.length:Int))∧True∧M.length=M.length∧(↑M.length:Int)=(↑M.length:Int)∧IntKind.i64.wrap (IntKind.i64.wrap ((↑E.length:Int) + (↑R.length:Int)) + (↑M.length:Int))=IntKind.i64.wrap (IntKind.i64.wrap ((↑E.length:Int) + (↑R.length:Int)) + (↑M.length:Int))∧True)∧eqA E.length (l5 E)∧eqA R.length (i9 R)∧eqA M.length (j8 M)∧(E.length=E.length∧R.length=R.length∧M.length=M.length)∧True)∧((decide ((↑x_1
 : Int) < (↑M.length:Int)) && decide ((↑x_1:Int) < (100:Int)))=false→decide (b3c E R M x_1≤n)=c4b E R M n)):=by kernel_rfl
theorem v9 (E:List Ev) (R:List Int) (M:List (List Int)) (n:Int) (h:SzF E R M):q9D E R M n:=by
 rw[d91]
 obtain⟨⟨hE,hR,hM⟩,hS⟩:=h
 have hF:∀ j,j≤M.length→_:=fun j hj=>c7j hS ((E.length:Int) + R.length + M.length) j hj
 have h1:a7i M≤M.length∧a7i M≤100:=by unfold a7i; split <;> omega
 simp only[eq_self,true_and,and_true,z0n,imp_self,l7,l8,n6,g7,g9,PLoop.of,p9,AV.len,i5,z0s,j4,j7,j6,l9,m4,m5,d0e]
 refine⟨(),⟨0,by omega,rfl,?_⟩,fun j hj=>⟨fun hl=>?_,fun hl=>?_⟩⟩
 ·rw[a2x (n:=(E.length:Int) + R.length) (by omega) (by omega),a2x (by omega) (by omega)]
  rfl
 ·simp only[z0d,z1p] at hl
  have hf:=hF (j + 1) (by omega)
  have hj3:j + 1≤a7i M:=by unfold a7i; split <;> omega
  rw[a63] at hf
  refine⟨⟨by omega,by omega⟩,by omega,j + 1,hj3,by omega,?_,a2x (by omega) (by omega)⟩
  exact a2x (by unfold a0h b3c at *; omega) (by unfold a0h b3c at *; omega)
 ·have hj2:j=a7i M:=by
   have:¬ (j < M.length∧j < 100):=fun hc=>by
    have:(decide ((j:Int) < M.length) && decide ((j:Int) < 100))=true:=by simp; omega
    rw[this] at hl; cases hl
   unfold a7i at hj ⊢
   split <;> rename_i h <;> simp only[h,if_true,if_false] at hj <;> omega
  subst hj2
  rfl
theorem n9 (nm:List (Option AV)):CallOk Tryz.prog [] 9 (o5 EL none nm [PG,.lf .i] d5j):=x4 Tryz.func9 fo9 fun av pre rv h=>by
 unfold d5j at h; split at h <;> cases h
 exact⟨⟨rfl,fun t a e=>by cases e <;> exact z0h _ _⟩,fun hp=>⟨_,v9 _ _ _ _ (hp _ (.head _)),rfl,t8,t9⟩⟩
theorem d7m:o6 Tryz.prog 102:=⟨Tryz.f102,Tryz.func102,by kernel_rfl,by kernel_rfl⟩
def d3w (a x k o:Int):Prop:=n7 (({}:Kit)).tab Tryz.f102 [.i .i64 a,.i .i64 x,.i .i64 k,.i .i64 o] [] (j9 (a5y (ev4 a x k o)))
theorem c9i (a x k o:Int):d3w a x k o=(a=(ev4 a x k o).ag∧x=(ev4 a x k o).ix∧k=(ev4 a x k o).k∧o=(ev4 a x k o).ob∧(-1:Int)=(ev4 a x k o).mu∧(-1:Int)=(ev4 a x k o).en∧(2:Int)=(ev4 a x k o).od∧(0:Int)=(ev4 a x k o).rd∧(0:Int)=(ev4 a x k o).wr):=by kernel_rfl
theorem v102 (a x k o:Int) :d3w a x k o:=by
 rw[c9i]
 exact⟨rfl,rfl,rfl,rfl,rfl,rfl,rfl,rfl,rfl⟩
theorem n102 (nm:List (Option AV)):CallOk Tryz.prog [] 102 (o5 EL none nm [.lf .i,.lf .i,.lf .i,.lf .i] d4s):=x4 Tryz.func102 d7m fun av pre rv h=>by
 unfold d4s at h; split at h <;> cases h
 exact⟨⟨rfl,fun t a e=>by cases e <;> exact z0h _ _⟩,fun hp=>⟨_,v102 _ _ _ _ ,rfl,t8,t9⟩⟩
theorem b4x {P:Nat→Prop} (h0:P 0) (h1:P 1) (h2:P 2) (h3:P 3):∀ j,j < exE.length→P j:=fun j hj=>by
 have hj:j < 4:=hj
 match j,hj with
 | 0,_=>exact h0
 | 1,_=>exact h1
 | 2,_=>exact h2
 | 3,_=>exact h3
theorem all2 {P:Nat→Prop} (h0:P 0) (h1:P 1):∀ j,j < exM.length→P j:=fun j hj=>by
 have hj:j < 2:=hj
 match j,hj with
 | 0,_=>exact h0
 | 1,_=>exact h1
theorem fo44:o6 Tryz.prog 44:=⟨Tryz.f44,Tryz.func44,by kernel_rfl,by kernel_rfl⟩
def q44D :Prop:=n7 (({ calls:=[kEv4 []] }:Kit)).tab Tryz.f44 [] [] ((QV.gr none exE exR exM).post EL)
theorem d74 :q44D =((1:Nat)=(1:Nat)∧(1:Nat)=(1:Nat)∧((4:Nat)=exE.length∧(4:Nat)=exE.length∧(∀(j:Nat),j < exE.length→e8 [(ev4 (0:Int) (0:Int) (2:Int) (0:Int)).ag,(ev4 (0:Int) (1:Int) (2:Int) (1:Int)).ag,(ev4 (1:Int) (0:Int) (1:Int) (1:Int)).ag,(ev4 (1:Int) (1:Int) (1:Int) (0:Int)).ag] j=(b6 e0 exE j).ag)∧(∀(j:Nat),j < exE.length→e8 [(ev4 (0:Int) (0:Int) (2:Int) (0:Int)).ix,(ev4 (0:Int) (1:Int) (2:Int) (1:Int)).ix,(ev4 (1:Int) (0:Int) (1:Int) (1:Int)).ix,(ev4 (1:Int) (1:Int) (1:Int) (0:Int)).ix] j=(b6 e0 exE j).ix)∧(∀(j:Nat),j < exE.length→e8 [(ev4 (0:Int) (0:Int) (2:Int) (0:Int)).k,(ev4 (0:Int) (1:Int) (2:Int) (1:Int)).k,(ev4 (1:Int) (0:Int) (1:Int) (1:Int)).k,(ev4 (1:Int) (1:Int) (1:Int) (0:Int)).k] j=(b6 e0 exE j).k)∧(∀(j:Nat),j < exE.length→e8 [(ev4 (0:Int) (0:Int) (2:Int) (0:Int)).ob,(ev4 (0:Int) (1:Int) (2:Int) (1:Int)).ob,(ev4 (1:Int) (0:Int) (1:Int) (1:Int)).ob,(ev4 (1:Int) (1:Int) (1:Int) (0:Int)).ob] j=(b6 e0 exE j).ob)∧(∀(j:Nat),j < exE.length→e8 [(ev4 (0:Int) (0:Int) (2:Int) (0:Int)).mu,(ev4 (0:Int) (1:Int) (2:Int) (1:Int)).mu,(ev4 (1:Int) (0:Int) (1:Int) (1:Int)).mu,(ev4 (1:Int) (1:Int) (1:Int) (0:Int)).mu] j=(b6 e0 exE j).mu)∧(∀(j:Nat),j < exE.length→e8 [(ev4 (0:Int) (0:Int) (2:Int) (0 :
 Int)).en,(ev4 (0:Int) (1:Int) (2:Int) (1:Int)).en,(ev4 (1:Int) (0:Int) (1:Int) (1:Int)).en,(ev4 (1:Int) (1:Int) (1:Int) (0:Int)).en] j=(b6 e0 exE j).en)∧(∀(j:Nat),j < exE.length→e8 [(ev4 (0:Int) (0:Int) (2:Int) (0:Int)).od,(ev4 (0:Int) (1:Int) (2:Int) (1:Int)).od,(ev4 (1:Int) (0:Int) (1:Int) (1:Int)).od,(ev4 (1:Int) (1:Int) (1:Int) (0:Int)).od] j=(b6 e0 exE j).od)∧(∀(j:Nat),j < exE.length→e8 [(ev4 (0:Int) (0:Int) (2:Int) (0:Int)).rd,(ev4 (0:Int) (1:Int) (2:Int) (1:Int)).rd,(ev4 (1:Int) (0:Int) (1:Int) (1:Int)).rd,(ev4 (1:Int) (1:Int) (1:Int) (0:Int)).rd] j=(b6 e0 exE j).rd)∧(∀(j:Nat),j < exE.length→e8 [(ev4 (0:Int) (0:Int) (2:Int) (0:Int)).wr,(ev4 (0:Int) (1:Int) (2:Int) (1:Int)).wr,(ev4 (1:Int) (0:Int) (1:Int) (1:Int)).wr,(ev4 (1:Int) (1:Int) (1:Int) (0:Int)).wr] j=(b6 e0 exE j).wr)∧True)∧((4:Nat)=exR.length∧(4:Nat)=exR.length∧(∀(j:Nat),j < exR.length→e8 [(-2:Int),(-2:Int),(1:Int),(-1:Int)] j=b6 (0:Int) exR j)∧True)∧(2:Nat)=exM.length∧(2:Nat)=exM.length∧((∀(j:Nat),j < exM.length→s7 (1:Nat) (1:Nat) (1:Nat) j=(b6 [] exM j).length)∧(∀(j:Nat),j < exM.length→∀(i:Nat),i < (b6 [] exM j).length→s7 (e8 [(0:Int)]) (e8 [(1:Int)]) (e8 [(1:Int)]) j i=b6 (0:Int) (b6 [] exM j) i)∧True)∧True):=by kernel_rfl
theorem v44  :q44D :=by
 rw[d74]
 simp only[eq_self,true_and,and_true,z0n,imp_self,l7,l8,n6,g7,g9,PLoop.of,p9,AV.len,i5,z0s,j4,j7,j6,l9,m4,m5]
 refine⟨⟨rfl,rfl,b4x rfl rfl rfl rfl,b4x rfl rfl rfl rfl,b4x rfl rfl rfl rfl,b4x rfl rfl rfl rfl,b4x rfl rfl rfl rfl,b4x rfl rfl rfl rfl,b4x rfl rfl rfl rfl,b4x rfl rfl rfl rfl,b4x rfl rfl rfl rfl⟩,⟨rfl,rfl,b4x rfl rfl rfl rfl⟩,rfl,rfl,all2 rfl rfl,all2 (fun i hi=>?_) (fun i hi=>?_)⟩
 ·have hi:i < 1:=hi
  match i,hi with
  | 0,_=>rfl
 ·have hi:i < 1:=hi
  match i,hi with
  | 0,_=>rfl
theorem n44 (nm:List (Option AV)):CallOk Tryz.prog [] 44 (o5 EL none nm [] d4t):=x4 Tryz.func44 fo44 fun av pre rv h=>by
 unfold d4t at h; split at h <;> cases h
 exact⟨⟨rfl,fun t a e=>by cases e <;> exact z0h _ _⟩,fun hp=>⟨_,v44 ,rfl,(m6 (n102 _) t8),t9⟩⟩
def c6c:SpG:=fun
 | [.ag [.es E,.is R,.rs M],.lf (.i n)]=>some ([SzG E M∧(E.length:Int) < n],.gr (some (bif b8 E R M then 2 else 1)) [] [] [])
 | _=>none
def d84 (nm:List (Option AV)):Nat × (List MBlk→List SV→Option AR):=(22,o5 EL gbT nm [PG,.lf .i] c6c)
theorem fo22:o6 Tryz.prog 22:=⟨Tryz.f22,Tryz.func22,by kernel_rfl,by kernel_rfl⟩
def d38 (E:List Ev) (R:List Int) (M:List (List Int)) (n:Int):Prop:=n7 (({ g:=true,calls:=[a5g (nmT E R M)] }:Kit)).tab Tryz.f22 [b1x E R M,.i .i64 n] (grT E R M) ((QV.gr (some (bif b8 E R M then 2 else 1)) [] [] []).post EL)
theorem d2i (E:List Ev) (R:List Int) (M:List (List Int)) (n:Int):d38 E R M n=(some tbl=some tbl∧E.length=E.length∧R.length=R.length∧M.length=M.length∧nE E∧nI R∧nR M∧(E.length≤(1099511627776:Nat)∧(M.length≤(8:Nat)→∀(r:List Int),List.Mem r M→r.length≤(1099511627776:Nat)))∧((!b8 E R M)=true→((1:Int)=bif b8 E R M then(2:Int) else(1:Int))∧([]:List Pq).length=(0:Nat)∧([]:List Pq).length=(0:Nat)∧([]:List Pq).length=(0:Nat))∧((!b8 E R M)=false→((decide (n < (0:Int)) || decide (n > (↑E.length:Int)))=true→((2:Int)=bif b8 E R M then(2:Int) else(1:Int))∧([]:List Pq).length=(0:Nat)∧([]:List Pq).length=(0:Nat)∧([]:List Pq).length=(0:Nat))∧((decide (n < (0:Int)) || decide (n > (↑E.length:Int)))=false→False))):=by kernel_rfl
theorem v22a (E:List Ev) (R:List Int) (M:List (List Int)) (n:Int) (h:SzG E M∧(E.length:Int) < n):d38 E R M n:=by
 rw[d2i]
 simp only[eq_self,true_and,and_true,z0n,imp_self,l7,l8,n6,g7,g9,PLoop.of,p9,AV.len,i5,z0s,j4,j7,j6,l9,m4,m5]
 refine⟨⟨h.1.1,h.1.2⟩,fun hv=>?_,fun hv=>⟨fun _=>?_,fun hc=>?_⟩⟩
 ·simp only[z0v] at hv
  rw[hv]; exact⟨rfl,rfl,rfl,rfl⟩
 ·simp only[Bool.not_eq_false'] at hv
  rw[hv]; exact⟨rfl,rfl,rfl,rfl⟩
 ·have:=h.2
  simp at hc
  omega
theorem n22a (nm:List (Option AV)):CallOk Tryz.prog GL 22 (o5 EL gbT nm [PG,.lf .i] c6c):=a55 Tryz.func22 fo22 fun av pre rv h=>by
 unfold c6c at h; split at h <;> cases h
 exact⟨⟨rfl,fun t a e=>by cases e <;> exact z0h _ _⟩,fun hp=>⟨_,v22a _ _ _ _ (hp _ (.head _)),rfl,(m6 (n33 _) t8),t9⟩⟩
def c1v:List Int:=[-2,-2,1,3]
def exV (l:List Pq):List Pq:=i4 (b8 exE exR exM) l
def a8q:List Pq:=exV (b7 exE.length (poG exE exR exM))
def b33:List Pq:=exV (b7 exE.length (rfG exE exR exM))
def a90:List Pq:=exV (b7 exE.length (p8 exE exR exM))
def b3v:List Pq:=exV (b7 exE.length (g8 exE exR exM))
def a6y:List Pq:=exV (a38 exE.length (poG exE exR exM) (f8 exE exR exM) (p8 exE exR exM))
def b1z:List Pq:=exV (a38 exE.length (rfG exE exR exM) (i6 exE exR exM) (g8 exE exR exM))
def b23:List (Option AV):=[none,some (.es exE),some (.is exR),some (.rs exM),none,some (.ps a8q),none,some (.ps b33),none,some (.ps a90),none,some (.ps b3v),none,some (.ps a6y),none,some (.ps b1z),none,some (.es exE),some (.is c1v),some (.rs exM)]
def d6d:SpG:=fun | []=>some ([],plB true) | _=>none
def kAwk (nm:List (Option AV)):Nat × (List MBlk→List SV→Option AR):=(10,o5 EL gbT nm [] d6d)
def kHas (nm:List (Option AV)):Nat × (List MBlk→List SV→Option AR):=(46,a07 EL nm [.r,.i,.i] c94)
def a76:Bool:=(bif b8 exE exR exM then(0:Int) else 1) == 0 && (bif b8 exE exR exM then(0:Int) else 1) == 0 && (bif b8 exE exR exM then(0:Int) else 1) == 0 && (bif b8 exE exR exM then(0:Int) else 1) == 0 && (bif b8 exE exR exM then(0:Int) else 1) == 0 && (bif b8 exE exR exM then(0:Int) else 1) == 0 && (bif b8 exE c1v exM then(0:Int) else 1) == 1 && (bif b8 exE exR exM then(2:Int) else 1) == 2
def exN:Int:=bif b8 exE exR exM then exE.length else 0
def b7b:Bool:=a76 && b8 exE exR exM && y6 exN a8q 4 (mkN (fun j=>(e8 [0,2] j,e8 [1,3] j)) 2) && y6 exN b33 4 (mkN (fun j=>(e8 [1] j,e8 [2] j)) 1)
def c0d:Bool:=b7b && y6 exN a90 4 (mkN (fun j=>(e8 [1] j,e8 [2] j)) 1) && y6 exN b3v 4 (mkN (fun j=>(e8 [3] j,e8 [0] j)) 1)
def a2o:Bool:=c0d && (d6 exN a6y && d5 a6y 0 3) && (d6 exN b1z && d5 b1z 3 0)
theorem d7t:(a2o && a3e exE exR exM exE exR exM == 0 && a3e exE c1v exM exE exR exM == -1)=true:=by kernel_rfl
theorem exSz:SzG exE exM:=⟨z1t (by kernel_rfl:Nat.ble exE.length 1099511627776=true),fun _ r hr=>by
 have:r∈exM:=hr
 simp only[exM,z0r,List.not_mem_nil,or_false] at this
 rcases this with rfl | rfl <;> decide⟩
theorem fo10:o6 Tryz.prog 10:=⟨Tryz.f10,Tryz.func10,by kernel_rfl,by kernel_rfl⟩
def q10D :Prop:=n7 (({ g:=true,calls:=[kExa [],a8x 25 (a1a poG) b23,a8x 27 (a1a rfG) b23,a8x 13 (a1a p8) b23,a8x 11 (a1a g8) b23,a8x 15 (a5k poG f8 p8) b23,a8x 17 (a5k rfG i6 g8) b23,a8x 29 (a1a i6) b23,d84 b23,a5g b23,kPrs b23,kHas b23,d7y b23] }:Kit)).tab Tryz.f10 [] [tbl] (j9 (.b true))
theorem d54 :q10D =(some (l4 [] tbl)=some tbl∧exE.length=exE.length∧exR.length=exR.length∧exM.length=exM.length∧nE exE∧nI exR∧nR exM∧(exE.length≤(1099511627776:Nat)∧(exM.length≤(8:Nat)→∀(r:List Int),List.Mem r exM→r.length≤(1099511627776:Nat)))∧i4 (b8 exE exR exM) (b7 (↑exE.length:Int) (poG exE exR exM))=a8q∧some (l4 [] (l4 [] tbl))=some tbl∧exE.length=exE.length∧exR.length=exR.length∧exM.length=exM.length∧nE exE∧nI exR∧nR exM∧(exE.length≤(1099511627776:Nat)∧(exM.length≤(8:Nat)→∀(r:List Int),List.Mem r exM→r.length≤(1099511627776:Nat)))∧i4 (b8 exE exR exM) (b7 (↑exE.length:Int) (rfG exE exR exM))=b33∧some (l4 [] (l4 [] (l4 [] tbl)))=some tbl∧exE.length=exE.length∧exR.length=exR.length∧exM.length=exM.length∧nE exE∧nI exR∧nR exM∧(exE.length≤(1099511627776:Nat)∧(exM.length≤(8:Nat)→∀(r:List Int),List.Mem r exM→r.length≤(1099511627776:Nat)))∧i4 (b8 exE exR exM) (b7 (↑exE.length:Int) (p8 exE exR exM))=a90∧some (l4 [] (l4 [] (l4 [] (l4 [] tbl))))=some tbl∧exE.length=exE.length∧exR.length=exR.length∧exM.length=exM.length∧nE exE∧nI exR∧nR exM∧(exE.length≤(1099511627776:Nat)∧(exM.length≤(8:Nat)→∀(r:List Int),List.Mem r exM→r.length≤(1099511627776:Nat)))∧i4 (b8 exE exR exM) (b7 (↑exE.length:Int) (g8 exE exR exM))=b3v∧some (l4
 [] (l4 [] (l4 [] (l4 [] (l4 [] tbl)))))=some tbl∧exE.length=exE.length∧exR.length=exR.length∧exM.length=exM.length∧nE exE∧nI exR∧nR exM∧(exE.length≤(1099511627776:Nat)∧(exM.length≤(8:Nat)→∀(r:List Int),List.Mem r exM→r.length≤(1099511627776:Nat)))∧i4 (b8 exE exR exM) (a38 exE.length (poG exE exR exM) (f8 exE exR exM) (p8 exE exR exM))=a6y∧some (l4 [] (l4 [] (l4 [] (l4 [] (l4 [] (l4 [] tbl))))))=some tbl∧exE.length=exE.length∧exR.length=exR.length∧exM.length=exM.length∧nE exE∧nI exR∧nR exM∧(exE.length≤(1099511627776:Nat)∧(exM.length≤(8:Nat)→∀(r:List Int),List.Mem r exM→r.length≤(1099511627776:Nat)))∧i4 (b8 exE exR exM) (a38 exE.length (rfG exE exR exM) (i6 exE exR exM) (g8 exE exR exM))=b1z∧((0:Int)≤(3:Int)∧(3:Int) < (↑exR.length:Int))∧Int.toNat (3:Int) < exR.length∧some (l4 [] (l4 [] (l4 [] (l4 [] (l4 [] (l4 [] (l4 [] (l4 [] (l4 [] tbl)))))))))=some tbl∧exE.length=exE.length∧exR.length=exR.length∧exM.length=exM.length∧nE exE∧mkN (fun(j:Nat)=>bif j.beq (Int.toNat (3:Int)) then(3:Int) else b6 (0:Int) exR j) exR.length=c1v∧nR exM∧(exE.length≤(1099511627776:Nat)∧(exM.length≤(8:Nat)→∀(r:List Int),List.Mem r exM→r.length≤(1099511627776:Nat)))∧some (l4 [] (l4 [] (l4 [] (l4 [] (l4 [] (l4 [] (l4 [] (l4
 [] (l4 [] (l4 [] tbl))))))))))=some tbl∧exE.length=exE.length∧exR.length=exR.length∧exM.length=exM.length∧nE exE∧nI exR∧nR exM∧((exE.length≤(1099511627776:Nat)∧(exM.length≤(8:Nat)→∀(r:List Int),List.Mem r exM→r.length≤(1099511627776:Nat)))∧(↑exE.length:Int) < (5:Int))∧((a76)=true→some (l4 [] (l4 [] (l4 [] (l4 [] (l4 [] (l4 [] (l4 [] (l4 [] (l4 [] (l4 [] (l4 [] (l4 [] tbl))))))))))))=some tbl)∧((a76)=true→exE.length=exE.length)∧((a76)=true→exR.length=exR.length)∧((a76)=true→exM.length=exM.length)∧((a76)=true→nE exE)∧((a76)=true→nI exR)∧((a76)=true→nR exM)∧((a76)=true→exE.length≤(1099511627776:Nat)∧(exM.length≤(8:Nat)→∀(r:List Int),List.Mem r exM→r.length≤(1099511627776:Nat)))∧((a76 && b8 exE exR exM)=true→(AV.ps a8q).len=(AV.ps a8q).len)∧((a76 && b8 exE exR exM)=true→mkN (fun(j:Nat)=>((b6 ((0:Int),(0:Int)) a8q j).fst,(b6 ((0:Int),(0:Int)) a8q j).snd)) (AV.ps a8q).len=a8q)∧((a76 && b8 exE exR exM)=true→(2:Nat)=(2:Nat))∧((a76 && b8 exE exR exM)=true→a8q.length≤(1099511627776:Nat))∧((a76 && b8 exE exR exM && y6 exN a8q (4:Int) (mkN (fun(j:Nat)=>(e8 [(0:Int),(2:Int)] j,e8 [(1:Int),(3:Int)] j)) (2:Nat)))=true→(AV.ps b33).len=(AV.ps b33).len)∧((a76 && b8 exE exR exM && y6
 exN a8q (4:Int) (mkN (fun(j:Nat)=>(e8 [(0:Int),(2:Int)] j,e8 [(1:Int),(3:Int)] j)) (2:Nat)))=true→mkN (fun(j:Nat)=>((b6 ((0:Int),(0:Int)) b33 j).fst,(b6 ((0:Int),(0:Int)) b33 j).snd)) (AV.ps b33).len=b33)∧((a76 && b8 exE exR exM && y6 exN a8q (4:Int) (mkN (fun(j:Nat)=>(e8 [(0:Int),(2:Int)] j,e8 [(1:Int),(3:Int)] j)) (2:Nat)))=true→(1:Nat)=(1:Nat))∧((a76 && b8 exE exR exM && y6 exN a8q (4:Int) (mkN (fun(j:Nat)=>(e8 [(0:Int),(2:Int)] j,e8 [(1:Int),(3:Int)] j)) (2:Nat)))=true→b33.length≤(1099511627776:Nat))∧((b7b)=true→(AV.ps a90).len=(AV.ps a90).len)∧((b7b)=true→mkN (fun(j:Nat)=>((b6 ((0:Int),(0:Int)) a90 j).fst,(b6 ((0:Int),(0:Int)) a90 j).snd)) (AV.ps a90).len=a90)∧((b7b)=true→(1:Nat)=(1:Nat))∧((b7b)=true→a90.length≤(1099511627776:Nat))∧((b7b && y6 exN a90 (4:Int) (mkN (fun(j:Nat)=>(e8 [(1:Int)] j,e8 [(2:Int)] j)) (1:Nat)))=true→(AV.ps b3v).len=(AV.ps b3v).len)∧((b7b && y6 exN a90 (4:Int) (mkN (fun(j:Nat)=>(e8 [(1:Int)] j,e8 [(2:Int)] j)) (1:Nat)))=true→mkN (fun(j:Nat)=>((b6 ((0:Int),(0:Int)) b3v j).fst,(b6 ((0:Int),(0:Int)) b3v j).snd)) (AV.ps b3v).len=b3v)∧((b7b && y6 exN a90 (4:Int) (mkN (fun(j:Nat)=>(e8 [(1:Int)] j,e8 [(2:Int)] j)) (1:Nat))) =
 true→(1:Nat)=(1:Nat))∧((b7b && y6 exN a90 (4:Int) (mkN (fun(j:Nat)=>(e8 [(1:Int)] j,e8 [(2:Int)] j)) (1:Nat)))=true→b3v.length≤(1099511627776:Nat))∧((c0d)=true→(AV.ps a6y).len=(AV.ps a6y).len)∧((c0d)=true→mkN (fun(j:Nat)=>((b6 ((0:Int),(0:Int)) a6y j).fst,(b6 ((0:Int),(0:Int)) a6y j).snd)) (AV.ps a6y).len=a6y)∧((c0d)=true→a6y.length≤(1099511627776:Nat))∧((c0d && (d6 exN a6y && d5 a6y (0:Int) (3:Int)))=true→(AV.ps b1z).len=(AV.ps b1z).len)∧((c0d && (d6 exN a6y && d5 a6y (0:Int) (3:Int)))=true→mkN (fun(j:Nat)=>((b6 ((0:Int),(0:Int)) b1z j).fst,(b6 ((0:Int),(0:Int)) b1z j).snd)) (AV.ps b1z).len=b1z)∧((c0d && (d6 exN a6y && d5 a6y (0:Int) (3:Int)))=true→b1z.length≤(1099511627776:Nat))∧((a2o)=true→some (l4 [] (l4 [] (l4 [] (l4 [] (l4 [] (l4 [] (l4 [] (l4 [] (l4 [] (l4 [] (l4 [] (l4 [] tbl))))))))))))=some tbl)∧((a2o)=true→exE.length=exE.length)∧((a2o)=true→exR.length=exR.length)∧((a2o)=true→exM.length=exM.length)∧((a2o)=true→nE exE)∧((a2o)=true→nI exR)∧((a2o)=true→nR exM)∧((a2o)=true→exE.length=exE.length)∧((a2o)=true→exR.length=exR.length)∧((a2o)=true→exM.length=exM.length)∧((a2o)=true→nE exE)∧((a2o)=true→nI exR)∧((a2o)=true→nR exM)∧((a2o)=true →
 exE.length≤(1099511627776:Nat)∧(exM.length≤(8:Nat)→∀(r:List Int),List.Mem r exM→r.length≤(1099511627776:Nat)))∧((a2o)=true→exE.length≤(1099511627776:Nat)∧(exM.length≤(8:Nat)→∀(r:List Int),List.Mem r exM→r.length≤(1099511627776:Nat)))∧((a2o && a3e exE exR exM exE exR exM == (0:Int))=true→some (l4 [] (l4 [] (l4 [] (l4 [] (l4 [] (l4 [] (l4 [] (l4 [] (l4 [] (l4 [] (l4 [] (l4 [] tbl))))))))))))=some tbl)∧((a2o && a3e exE exR exM exE exR exM == (0:Int))=true→exE.length=exE.length)∧((a2o && a3e exE exR exM exE exR exM == (0:Int))=true→exR.length=exR.length)∧((a2o && a3e exE exR exM exE exR exM == (0:Int))=true→exM.length=exM.length)∧((a2o && a3e exE exR exM exE exR exM == (0:Int))=true→nE exE)∧((a2o && a3e exE exR exM exE exR exM == (0:Int))=true→mkN (fun(j:Nat)=>bif j.beq (Int.toNat (3:Int)) then(3:Int) else b6 (0:Int) exR j) exR.length=c1v)∧((a2o && a3e exE exR exM exE exR exM == (0:Int))=true→nR exM)∧((a2o && a3e exE exR exM exE exR exM == (0:Int))=true→exE.length=exE.length)∧((a2o && a3e exE exR exM exE exR exM == (0:Int))=true→exR.length=exR.length)∧((a2o && a3e exE exR exM exE exR exM == (0:Int))=true→exM.length=exM.length)∧((a2o && a3e exE exR exM exE exR exM == (0:Int))=true→nE exE)∧((a2o && a3e exE exR exM exE exR exM == (0:Int))=true→nI
 exR)∧((a2o && a3e exE exR exM exE exR exM == (0:Int))=true→nR exM)∧((a2o && a3e exE exR exM exE exR exM == (0:Int))=true→exE.length≤(1099511627776:Nat)∧(exM.length≤(8:Nat)→∀(r:List Int),List.Mem r exM→r.length≤(1099511627776:Nat)))∧((a2o && a3e exE exR exM exE exR exM == (0:Int))=true→exE.length≤(1099511627776:Nat)∧(exM.length≤(8:Nat)→∀(r:List Int),List.Mem r exM→r.length≤(1099511627776:Nat)))∧(a2o && a3e exE exR exM exE exR exM == (0:Int) && a3e exE c1v exM exE exR exM == (-1:Int))=true):=by kernel_rfl
theorem v10  :q10D :=by
 rw[d54]
 simp only[eq_self,true_and,and_true,z0n,imp_self,l7,l8,n6,g7,g9,PLoop.of,p9,AV.len,i5,z0s,j4,j7,j6,l9,m4,m5]
 have hS:=exSz
 have hS:exE.length≤1099511627776∧(exM.length≤8→∀ r:List Int,List.Mem r exM→r.length≤1099511627776):=⟨hS.1,hS.2⟩
 have hR:mkN (fun j=>bif j.beq (Int.toNat 3) then 3 else b6 0 exR j) exR.length=c1v:=by kernel_rfl
 exact⟨hS,rfl,hS,rfl,hS,rfl,hS,rfl,hS,rfl,hS,rfl,⟨by decide,by decide⟩,by decide,hR,hS,⟨hS,by decide⟩,fun _=>hS,fun _=>z1t (by kernel_rfl:Nat.ble a8q.length 1099511627776=true),fun _=>z1t (by kernel_rfl:Nat.ble b33.length 1099511627776=true),fun _=>z1t (by kernel_rfl:Nat.ble a90.length 1099511627776=true),fun _=>z1t (by kernel_rfl:Nat.ble b3v.length 1099511627776=true),fun _=>z1t (by kernel_rfl:Nat.ble a6y.length 1099511627776=true),fun _=>z1t (by kernel_rfl:Nat.ble b1z.length 1099511627776=true),fun _=>hS,fun _=>hS,fun _=>hR,fun _=>hS,fun _=>hS,d7t⟩
theorem n10 (nm:List (Option AV)):CallOk Tryz.prog GL 10 (o5 EL gbT nm [] d6d):=a55 Tryz.func10 fo10 fun av pre rv h=>by
 unfold d6d at h; split at h <;> cases h
 exact⟨⟨rfl,fun t a e=>by cases e <;> exact z0h _ _⟩,fun hp=>⟨_,v10 ,rfl,(m6 (a1f (n44 _)) (m6 (n25 _) (m6 (n27 _) (m6 (n13 _) (m6 (n11 _) (m6 (n15 _) (m6 (n17 _) (m6 (n29 _) (m6 (n22a _) (m6 (n33 _) (m6 (a1f (n45 _)) (m6 (a1f (n46 _)) (m6 (n42 _) t8))))))))))))),t9⟩⟩
def vL (E:List Ev) (R:List Int) (M:List (List Int)) (f:GF):List Pq:=i4 (b8 E R M) (b7 E.length (f E R M))
def vC1 (E:List Ev) (R:List Int) (M:List (List Int)) (a b c:GF):List Pq:=i4 (b8 E R M) (a38 E.length (a E R M) (b E R M) (c E R M))
def vC (E:List Ev) (R:List Int) (M:List (List Int)) (f:GF):List Pq:=i4 (b8 E R M) (a46 E.length (f E R M))
def vN (E:List Ev) (R:List Int) (M:List (List Int)):Int:=bif b8 E R M then E.length else 0
def vE (E:List Ev) (R:List Int) (M:List (List Int)):Int:=bif b8 E R M then 0 else 1
def nm3 (E:List Ev) (R:List Int) (M:List (List Int)):List (Option AV):=[none,some (.es E),some (.is R),some (.rs M),none,some (.ps (vL E R M g8)),none,some (.ps (vL E R M (d9 ⟨#[102]⟩))),none,some (.ps (vL E R M p8)),none,some (.ps (vL E R M (d9 ⟨#[119]⟩))),none,some (.ps (vC1 E R M poG f8 p8)),none,some (.ps (vC E R M (d9 ⟨#[112,115,119]⟩))),none,some (.ps (vC1 E R M rfG i6 g8)),none,some (.ps (vC E R M (d9 ⟨#[114,109,102]⟩)))]
end Go.Proofs.YtaeeaniofljmnaaGreatDoor

/-
  A part of the proof (H51a).
-/
import Derived.Test.YtaeeaniofljmnaaGreatDoorH46a
namespace Go.Proofs.YtaeeaniofljmnaaGreatDoor
set_option linter.unusedSimpArgs false
set_option linter.unusedVariables false
open Go Go.Proofs.YtaeeaniofljmnaaGreatDoor.Sx
set_option maxRecDepth 100000
theorem d2f {E:List Ev} {R:List Int} {M:List (List Int)} (h:SzG E M):(noE E R M).length≤1099511627776∧(noR E R M).length≤1099511627776∧(noM E R M).length≤1099511627776∧∀ r:List Int,List.Mem r (noM E R M)→r.length≤1099511627776:=by
 unfold noE noR noM
 cases hk:o8 E R M
 ·simp only[v4,z0l]
  exact⟨by simp,by simp,by simp,fun r h=>nomatch h⟩
 ·simp only[o8,z0d] at hk
  obtain⟨hG,hN⟩:=a0f hk.1 h
  obtain⟨hM,hR⟩:=a2m hk.1
  simp only[v4,z0g,arE,arR,arM,z3o,w5,a4s]
  refine⟨by omega,by omega,by omega,fun r hr=>?_⟩
  obtain⟨q,hq,rfl⟩:=z2h.1 (show r∈_ from hr)
  rw[z3o]
  exact h.2 hM q hq
theorem or3 (a b c:Int):orF (mkN (e8 [a,b,c]) 3)=orF [a,b,c]:=rfl
theorem fo42:o6 Tryz.prog 42:=⟨Tryz.f42,Tryz.func42,by kernel_rfl,by kernel_rfl⟩
def q42D (E:List Ev) (R:List Int) (M:List (List Int)) (E':List Ev) (R':List Int) (M':List (List Int)):Prop:=n7 (({ g:=true,calls:=[d8b (c6j E R M E' R' M'),kCmF (c6j E R M E' R' M'),kCmL (c6j E R M E' R' M'),kCmM (c6j E R M E' R' M'),kOr (c6j E R M E' R' M')] }:Kit)).tab Tryz.f42 [a98 E R M,d85 E' R' M'] (grT2 E R M E' R' M') (l4 (.i .i64 (a36 E R M E' R' M')))
theorem d5o (E:List Ev) (R:List Int) (M:List (List Int)) (E':List Ev) (R':List Int) (M':List (List Int)):q42D E R M E' R' M'=(some tbl=some tbl∧E.length=E.length∧R.length=R.length∧M.length=M.length∧nE E∧nI R∧nR M∧(E.length≤(1099511627776:Nat)∧(M.length≤(8:Nat)→∀(r:List Int),List.Mem r M→r.length≤(1099511627776:Nat)))∧some (i7 [] tbl)=some tbl∧E'.length=E'.length∧R'.length=R'.length∧M'.length=M'.length∧mkN (fun(j:Nat)=>b6 e0 E' j) E'.length=E'∧mkN (b6 (0:Int) R') R'.length=R'∧mkN (fun(j:Nat)=>mkN (fun(i:Nat)=>b6 (0:Int) (b6 [] M' j) i) (b6 [] M' j).length) M'.length=M'∧(E'.length≤(1099511627776:Nat)∧(M'.length≤(8:Nat)→∀(r:List Int),List.Mem r M'→r.length≤(1099511627776:Nat)))∧((a3i E R M != (0:Int) && a3i E' R' M' != (0:Int))=true→(0:Int)=a36 E R M E' R' M')∧((a3i E R M != (0:Int) && a3i E' R' M' != (0:Int))=false→((a3i E R M != (0:Int))=true→(-1:Int)=a36 E R M E' R' M')∧((a3i E R M != (0:Int))=false→((a3i E' R' M' != (0:Int))=true→(1:Int)=a36 E R M E' R' M')∧((a3i E' R' M' != (0:Int))=false→(v4 (o8 E R M) (arE E (w5 E R M))).length=(v4 (o8 E R M) (arE E (w5 E R M))).length∧mkN (fun(j:Nat)=>b6 e0 (v4 (o8 E R M) (arE E (w5 E R M))) j) (v4 (o8 E R M) (arE E (w5 E R M))).length=noE E R M∧(v4 (o8 E' R' M') (arE E' (w5 E' R' M'))).length=(v4 (o8 E' R' M') (arE E' (w5 E' R' M'))).length∧mkN (fun(j:Nat)=>b6 e0 (v4 (o8 E' R' M')
 (arE E' (w5 E' R' M'))) j) (v4 (o8 E' R' M') (arE E' (w5 E' R' M'))).length=noE E' R' M'∧(noE E R M).length≤(1099511627776:Nat)∧(v4 (o8 E R M) (arR R (w5 E R M))).length=(v4 (o8 E R M) (arR R (w5 E R M))).length∧mkN (b6 (0:Int) (v4 (o8 E R M) (arR R (w5 E R M)))) (v4 (o8 E R M) (arR R (w5 E R M))).length=noR E R M∧(v4 (o8 E' R' M') (arR R' (w5 E' R' M'))).length=(v4 (o8 E' R' M') (arR R' (w5 E' R' M'))).length∧mkN (b6 (0:Int) (v4 (o8 E' R' M') (arR R' (w5 E' R' M')))) (v4 (o8 E' R' M') (arR R' (w5 E' R' M'))).length=noR E' R' M'∧(noR E R M).length≤(1099511627776:Nat)∧(v4 (o8 E R M) (arM M (w5 E R M))).length=(v4 (o8 E R M) (arM M (w5 E R M))).length∧mkN (fun(j:Nat)=>mkN (fun(i:Nat)=>b6 (0:Int) (b6 [] (v4 (o8 E R M) (arM M (w5 E R M))) j) i) (b6 [] (v4 (o8 E R M) (arM M (w5 E R M))) j).length) (v4 (o8 E R M) (arM M (w5 E R M))).length=noM E R M∧(v4 (o8 E' R' M') (arM M' (w5 E' R' M'))).length=(v4 (o8 E' R' M') (arM M' (w5 E' R' M'))).length∧mkN (fun(j:Nat)=>mkN (fun(i:Nat)=>b6 (0:Int) (b6 [] (v4 (o8 E' R' M') (arM M' (w5 E' R' M'))) j) i) (b6 [] (v4 (o8 E' R' M') (arM M' (w5 E' R' M'))) j).length) (v4 (o8 E' R' M') (arM M' (w5 E' R' M'))).length=noM E' R' M'∧(((noM E R M).length≤(1099511627776:Nat)∧(noM E' R' M').length≤(1099511627776:Nat)) ∧
 ∀(r:List Int),List.Mem r (noM E R M)→r.length≤(1099511627776:Nat))∧(3:Nat)=(3:Nat)∧(mkN (e8 [z7 a56 (noE E R M) (noE E' R' M'),z7 o5 (noR E R M) (noR E' R' M'),b2p (noM E R M) (noM E' R' M')]) (3:Nat)).length≤(1099511627776:Nat)∧orF (mkN (e8 [z7 a56 (noE E R M) (noE E' R' M'),z7 o5 (noR E R M) (noR E' R' M'),b2p (noM E R M) (noM E' R' M')]) (3:Nat))=a36 E R M E' R' M')))):=by kernel_rfl
theorem v42 (E:List Ev) (R:List Int) (M:List (List Int)) (E':List Ev) (R':List Int) (M':List (List Int)) (h:SzG E M) (h':SzG E' M'):q42D E R M E' R' M':=by
 rw[d5o]
 simp only[eq_self,true_and,and_true,z0o,imp_self,m5,m6,m9,g7,g9,PLoop.of,p9,AV.len,i5,z0s,j4,j7,j8,l7,l8,l9]
 have h1:=d2f (R:=R) h
 have h2:=d2f (R:=R') h'
 refine⟨⟨h.1,h.2⟩,⟨h'.1,h'.2⟩,fun hc=>?_,fun hc=>⟨fun hd=>?_,fun hd=>⟨fun he=>?_,fun he=>?_⟩⟩⟩
 ·simp only[z0d] at hc
  simp[a36,hc]
 ·rw[hd,z1o] at hc
  simp[a36,hd,hc]
 ·simp[a36,hd,he]
 refine⟨rfl,rfl,h1.1,rfl,rfl,h1.2.1,rfl,rfl,⟨⟨h1.2.2.1,h2.2.2.1⟩,h1.2.2.2⟩,by omega,?_⟩
 rw[or3]
 simp[a36,hd,he]
theorem n42 (nm:List (Option AV)):CallOk Tryz.prog GL 42 (n6 EL gbT nm [PG,PG] c7s):=a4r Tryz.func42 fo42 fun av pre rv h=>by
 unfold c7s at h; split at h <;> cases h
 exact⟨⟨rfl,fun t a e=>by cases e <;> exact z0h _ _⟩,fun hp=>⟨_,v42 _ _ _ _ _ _ (hp _ (.head _)) (hp _ (.tail _ (.head _))),rfl,(m4 (n20 _) (m4 (a11 (n97 _)) (m4 (a11 (n99 _)) (m4 (a11 (n92 _)) (m4 (a11 (n96 _)) t6))))),t7⟩⟩
def a93 (l m:List Pq):Nat→Bool
 | 0=>true
 | j + 1=>a93 l m j && ((b6 (0,0) l j).1 == (b6 (0,0) m j).1 && (b6 (0,0) l j).2 == (b6 (0,0) m j).2)
def s5 (N:Int) (l:List Pq) (N':Int) (m:List Pq):Bool:=!(N != N' || (l.length:Int) != (m.length:Int)) && a93 l m l.length
def c9d (l m:List Pq) (t:Nat):LAnn:=p9 l.length t (fun j=>a93 l m j=true) (fun _=>[]) []
def d4q:SpP:=fun | [.lf (.r N l),.lf (.r N' m)]=>some ([L9 l],plB (s5 N l N' m)) | _=>none
def kPrs (nm:List (Option AV)):Nat × (List MBlk→List SV→Option AR):=(45,n6 EL none nm [.lf .r,.lf .r] d4q)
def d47:SpP:=fun | [.lf (.r N l),.lf (.i e),.lf (.r N' m),.lf (.i e')]=>some ([L9 l],plB (s5 N l N' m && e == e')) | _=>none
def d3o (nm:List (Option AV)):Nat × (List MBlk→List SV→Option AR):=(19,n6 EL none nm [.lf .r,.lf .i,.lf .r,.lf .i] d47)
def a5n (M:List (List Int)) (x:Int):Nat→Int
 | 0=>x
 | j + 1=>a5n M x j + (a0e M j).length
def b2v (E:List Ev) (R:List Int) (M:List (List Int)):Nat→Int:=a5n M ((E.length:Int) + R.length + M.length)
def a6w (M:List (List Int)):Nat:=if M.length < 100 then M.length else 100
def b83 (E:List Ev) (R:List Int) (M:List (List Int)) (n:Int):Bool:=decide (b2v E R M (a6w M)≤n)
def c9c (E:List Ev) (R:List Int) (M:List (List Int)) (t s:Nat):LAnn:={ X:=Nat,inv:=fun j=>j≤a6w M,slots:=fun j=>[(t,.i .i64 (j:Int)),(s,.i .i64 (b2v E R M j))],mem:=fun _=>[],mu:=fun j=>a6w M - j,kill:=[] }
def SzF (E:List Ev) (R:List Int) (M:List (List Int)):Prop:=(E.length≤17592186044416∧R.length≤17592186044416∧M.length≤17592186044416)∧∀ r∈M,r.length≤17592186044416
def d4l:SpP:=fun | [.ag [.es E,.is R,.rs M],.lf (.i n)]=>some ([SzF E R M],plB (b83 E R M n)) | _=>none
def d3r (nm:List (Option AV)):Nat × (List MBlk→List SV→Option AR):=(9,n6 EL none nm [PG,.lf .i] d4l)
def exE:List Ev:=[⟨0,0,2,0,-1,-1,2,0,0⟩,⟨0,1,2,1,-1,-1,2,0,0⟩,⟨1,0,1,1,-1,-1,2,0,0⟩,⟨1,1,1,0,-1,-1,2,0,0⟩]
def exR:List Int:=[-2,-2,1,-1]
def exM:List (List Int):=[[0],[1]]
def ev4 (a x k o:Int):Ev:=⟨a,x,k,o,-1,-1,2,0,0⟩
def d4j:SpP:=fun | [.lf (.i a),.lf (.i x),.lf (.i k),.lf (.i o)]=>some ([],.rv (.pl (a5m (ev4 a x k o)))) | _=>none
def kEv4 (nm:List (Option AV)):Nat × (List MBlk→List SV→Option AR):=(102,n6 EL none nm [.lf .i,.lf .i,.lf .i,.lf .i] d4j)
def d4k:SpG:=fun | []=>some ([],.gr none exE exR exM) | _=>none
def kExa (nm:List (Option AV)):Nat × (List MBlk→List SV→Option AR):=(44,n6 EL none nm [] d4k)
theorem c33 {l m:List Pq} {k:Nat} (h:a93 l m k=true):∀ d j,j + d=k→a93 l m j=true:=by
 intro d
 induction d generalizing k with
 | zero=>intro j e; subst e; exact h
 | succ d ih =>
  intro j e
  obtain⟨k,rfl⟩:∃ k',k=k' + 1:=⟨j + d,by omega⟩
  simp only[a93,z0d] at h
  exact ih h.1 j (by omega)
theorem c5p {M:List (List Int)} (hS:∀ r∈M,r.length≤17592186044416) (x:Int):∀ j,j≤M.length→x≤a5n M x j∧a5n M x j≤x + j * 17592186044416:=by
 intro j
 induction j with
 | zero=>intro _; simp[a5n]
 | succ j ih =>
  intro h
  have h1:=ih (by omega)
  have h2:(a0e M j).length≤17592186044416:=hS _ (by unfold a0e; rw[q8 [] M _ (show j < M.length by omega)]; exact z2e _)
  rw[a5n]
  omega
theorem c1y (M:List (List Int)) (x:Int):∀ j,x≤a5n M x j:=fun j=>by
 induction j with
 | zero=>simp[a5n]
 | succ j ih=>rw[a5n]; omega
theorem c5o {M:List (List Int)} (x:Int) {o:Nat}:∀ {j},o < j→x + (a0e M o).length≤a5n M x j:=by
 intro j
 induction j with
 | zero=>intro h; omega
 | succ j ih =>
  intro h
  rw[a5n]
  by_cases e:o=j
  ·subst e; have:=c1y M x o; omega
  ·have:=ih (by omega); omega
theorem c5q {E:List Ev} {R:List Int} {M:List (List Int)} (h:b83 E R M 300=true):SzG E M:=by
 have hn:b2v E R M (a6w M)≤300:=z0e h
 refine⟨?_,fun h8 r hr=>?_⟩
 ·have:E.length≤1099511627776:=by
   unfold b2v at hn
   have:(E.length:Int) + R.length + M.length≤a5n M ((E.length:Int) + R.length + M.length) (a6w M):=c1y M _ _
   omega
  exact this
 ·obtain⟨o,ho,rfl⟩:=List.mem_iff_getElem.1 hr
  have h1:a6w M=M.length:=by unfold a6w; rw[if_pos (by omega)]
  rw[h1] at hn
  have:=c5o (M:=M) ((E.length:Int) + R.length + M.length) ho
  unfold b2v at hn
  have e:a0e M o=M[o]:=q8 [] M o ho
  rw[e] at this
  show M[o].length≤1099511627776
  omega
theorem fo45:o6 Tryz.prog 45:=⟨Tryz.f45,Tryz.func45,by kernel_rfl,by kernel_rfl⟩
def q45D (N:Int) (l:List Pq) (N':Int) (m:List Pq):Prop:=n7 (({ loops:=[(0,.of (c9d l m 5))] }:Kit)).tab Tryz.f45 [.agg [.i .i64 N,.sl 0 l.length],.agg [.i .i64 N',.sl 1 m.length]] [.arr l.length (a1a l),.arr m.length (a1a m)] (l4 (.b (s5 N l N' m)))
theorem d5q (N:Int) (l:List Pq) (N':Int) (m:List Pq):q45D N l N' m=(((N != N' || (↑l.length:Int) != (↑m.length:Int))=true→false=s5 N l N' m)∧((N != N' || (↑l.length:Int) != (↑m.length:Int))=false→∃(x:PUnit),(∃(x:Nat),(x≤l.length∧a93 l m x=true)∧((0:Int)=(↑x:Int)∧True)∧True)∧∀(x_1:Nat),x_1≤l.length∧a93 l m x_1=true→(decide ((↑x_1:Int) < (↑l.length:Int))=true→((0:Int)≤(↑x_1:Int)∧(↑x_1:Int) < (↑l.length:Int))∧x_1 < l.length∧((0:Int)≤(↑x_1:Int)∧(↑x_1:Int) < (↑m.length:Int))∧x_1 < m.length∧((!((b6 ((0:Int),(0:Int)) l x_1).fst == (b6 ((0:Int),(0:Int)) m x_1).fst && (b6 ((0:Int),(0:Int)) l x_1).snd == (b6 ((0:Int),(0:Int)) m x_1).snd))=true→false=s5 N l N' m)∧((!((b6 ((0:Int),(0:Int)) l x_1).fst == (b6 ((0:Int),(0:Int)) m x_1).fst && (b6 ((0:Int),(0:Int)) l x_1).snd == (b6 ((0:Int),(0:Int)) m x_1).snd))=false→∃(x_2:Nat),(x_2≤l.length∧a93 l m x_2=true)∧((PLoop.of (c9d l m (5:Nat))).ann x).mu x_2 < ((PLoop.of (c9d l m (5:Nat))).ann x).mu x_1∧((N=N∧l.length=l.length)∧(N'=N'∧m.length=m.length)∧True∧True∧IntKind.i64.wrap ((↑x_1:Int) + (1:Int))=(↑x_2:Int)∧True∧N=N∧True∧N'=N'∧(N != N')=(N != N')∧(N != N')=(N != N')∧false=false∧True)∧eqA l.length (a1a l)∧eqA m.length (a1a m)∧(N=N∧l.length=l.length)∧(N'=N'∧m.length=m.length)∧True))∧(decide ((↑x_1:Int) < (↑l.length:Int))=false →
 true=s5 N l N' m))):=by kernel_rfl
theorem v45 (N:Int) (l:List Pq) (N':Int) (m:List Pq) (h:L9 l):q45D N l N' m:=by
 rw[d5q]
 simp only[eq_self,true_and,and_true,z0o,imp_self,m5,m6,m9,g7,g9,PLoop.of,p9,AV.len,i5,z0s,j4,j7,j8,l7,l8,l9,c9d]
 refine⟨fun hc=>by rw[s5,hc]; rfl,fun hc=>⟨(),⟨0,⟨by omega,rfl⟩,rfl⟩,fun j hj=>⟨fun hlj=>?_,fun hlj=>?_⟩⟩⟩
 ·have hj2:j < l.length:=by have:=z0e hlj; omega
  have hlen:(l.length:Int)=m.length:=by simp at hc; omega
  refine⟨⟨by omega,by omega⟩,hj2,⟨by omega,by omega⟩,by omega,fun hd=>?_,fun hd=>⟨j + 1,⟨by omega,?_⟩,by omega,wrS (n:=l.length) hj2 h⟩⟩
  ·rw[s5,hc,z2r,z1o]
   cases he:a93 l m l.length
   ·rfl
   ·have:=c33 he (l.length - (j + 1)) (j + 1) (by omega)
    rw[a93,z0d] at this
    rw[this.2] at hd
    cases hd
  ·show(a93 l m j && _)=true
   rw[hj.2,z1o]
   simpa using hd
 have hj2:j=l.length:=by have:=z0m hlj; omega
 subst hj2
 rw[s5,hc,hj.2]
 rfl
theorem n45 (nm:List (Option AV)):CallOk Tryz.prog [] 45 (n6 EL none nm [.lf .r,.lf .r] d4q):=x4 Tryz.func45 fo45 fun av pre rv h=>by
 unfold d4q at h; split at h <;> cases h
 exact⟨⟨rfl,fun t a e=>by cases e <;> exact z0h _ _⟩,fun hp=>⟨_,v45 _ _ _ _ (hp _ (.head _)),rfl,t6,t7⟩⟩
theorem fo19:o6 Tryz.prog 19:=⟨Tryz.f19,Tryz.func19,by kernel_rfl,by kernel_rfl⟩
def q19D (N:Int) (l:List Pq) (e:Int) (N':Int) (m:List Pq) (e':Int):Prop:=n7 (({ calls:=[kPrs []] }:Kit)).tab Tryz.f19 [.agg [.i .i64 N,.sl 0 l.length],.i .i64 e,.agg [.i .i64 N',.sl 1 m.length],.i .i64 e'] [.arr l.length (a1a l),.arr m.length (a1a m)] (l4 (.b (s5 N l N' m && e == e')))
theorem d5c (N:Int) (l:List Pq) (e:Int) (N':Int) (m:List Pq) (e':Int):q19D N l e N' m e'=(l.length=l.length∧m.length=m.length∧(mkN (fun(j:Nat)=>((b6 ((0:Int),(0:Int)) l j).fst,(b6 ((0:Int),(0:Int)) l j).snd)) l.length).length≤(1099511627776:Nat)∧(s5 N (mkN (fun(j:Nat)=>((b6 ((0:Int),(0:Int)) l j).fst,(b6 ((0:Int),(0:Int)) l j).snd)) l.length) N' (mkN (fun(j:Nat)=>((b6 ((0:Int),(0:Int)) m j).fst,(b6 ((0:Int),(0:Int)) m j).snd)) m.length) && e == e')=(s5 N l N' m && e == e')):=by kernel_rfl
theorem v19 (N:Int) (l:List Pq) (e:Int) (N':Int) (m:List Pq) (e':Int) (h:L9 l):q19D N l e N' m e':=by
 rw[d5c]
 simp only[eq_self,true_and,and_true,z0o,imp_self,m5,m6,m9,g7,g9,PLoop.of,p9,AV.len,i5,z0s,j4,j7,j8,l7,l8,l9]
 exact h
theorem n19 (nm:List (Option AV)):CallOk Tryz.prog [] 19 (n6 EL none nm [.lf .r,.lf .i,.lf .r,.lf .i] d47):=x4 Tryz.func19 fo19 fun av pre rv h=>by
 unfold d47 at h; split at h <;> cases h
 exact⟨⟨rfl,fun t a e=>by cases e <;> exact z0h _ _⟩,fun hp=>⟨_,v19 _ _ _ _ _ _ (hp _ (.head _)),rfl,(m4 (n45 _) t6),t7⟩⟩
theorem fo9:o6 Tryz.prog 9:=⟨Tryz.f9,Tryz.func9,by kernel_rfl,by kernel_rfl⟩
def q9D (E:List Ev) (R:List Int) (M:List (List Int)) (n:Int):Prop:=n7 (({ loops:=[(0,.of (c9c E R M 6 5))] }:Kit)).tab Tryz.f9 [grV E R M,.i .i64 n] (grM E R M) (l4 (.b (b83 E R M n)))
theorem d8p (E:List Ev) (R:List Int) (M:List (List Int)) (n:Int):q9D E R M n=(∃(x:PUnit),(∃(x:Nat),x≤a6w M∧((0:Int)=(↑x:Int)∧IntKind.i64.wrap (IntKind.i64.wrap ((↑E.length:Int) + (↑R.length:Int)) + (↑M.length:Int))=b2v E R M x∧True)∧True)∧∀(x_1:Nat),x_1≤a6w M→((decide ((↑x_1:Int) < (↑M.length:Int)) && decide ((↑x_1:Int) < (100:Int)))=true→((0:Int)≤(↑x_1:Int)∧(↑x_1:Int) < (↑M.length:Int))∧x_1 < M.length∧∃(x_2:Nat),x_2≤a6w M∧((PLoop.of (c9c E R M (6:Nat) (5:Nat))).ann x).mu x_2 < ((PLoop.of (c9c E R M (6:Nat) (5:Nat))).ann x).mu x_1∧((E.length=E.length∧R.length=R.length∧M.length=M.length)∧n=n∧True∧false=false∧IntKind.i64.wrap (b2v E R M x_1 + (↑(b6 [] M x_1).length:Int))=b2v E R M x_2∧IntKind.i64.wrap ((↑x_1:Int) + (1:Int))=(↑x_2:Int)∧True∧E.length=E.length∧(↑E.length:Int)=(↑E.length:Int)∧True∧R.length=R.length∧(↑R.length:Int)=(↑R.length:Int)∧IntKind.i64.wrap ((↑E.length:Int) + (↑R.length:Int))=IntKind.i64.wrap ((↑E.length:Int) + (↑R.length:Int))∧True∧M.length=M.length∧(↑M.length:Int)=(↑M.length:Int)∧IntKind.i64.wrap (IntKind.i64.wrap ((↑E.length:Int) + (↑R.length:Int)) + (↑M.length:Int))=IntKind.i64.wrap (IntKind.i64.wrap ((↑E.length:Int) + (↑R.length:Int)) + (↑M.length:Int))∧True)∧eqA E.length (l5 E)∧eqA R.length (j5 R)∧eqA M.length (j9 M)∧(E.length=E.length∧R.length=R.length∧M.length=M.length)∧True)∧((decide ((↑x_1
 : Int) < (↑M.length:Int)) && decide ((↑x_1:Int) < (100:Int)))=false→decide (b2v E R M x_1≤n)=b83 E R M n)):=by kernel_rfl
theorem v9 (E:List Ev) (R:List Int) (M:List (List Int)) (n:Int) (h:SzF E R M):q9D E R M n:=by
 rw[d8p]
 obtain⟨⟨hE,hR,hM⟩,hS⟩:=h
 have hF:∀ j,j≤M.length→_:=fun j hj=>c5p hS ((E.length:Int) + R.length + M.length) j hj
 have h1:a6w M≤M.length∧a6w M≤100:=by unfold a6w; split <;> omega
 simp only[eq_self,true_and,and_true,z0o,imp_self,m5,m6,m9,g7,g9,PLoop.of,p9,AV.len,i5,z0s,j4,j7,j8,l7,l8,l9,c9c]
 refine⟨(),⟨0,by omega,rfl,?_⟩,fun j hj=>⟨fun hl=>?_,fun hl=>?_⟩⟩
 ·rw[a4c (n:=(E.length:Int) + R.length) (by omega) (by omega),a4c (by omega) (by omega)]
  rfl
 ·simp only[z0d,z1p] at hl
  have hf:=hF (j + 1) (by omega)
  have hj3:j + 1≤a6w M:=by unfold a6w; split <;> omega
  rw[a5n] at hf
  refine⟨⟨by omega,by omega⟩,by omega,j + 1,hj3,by omega,?_,a4c (by omega) (by omega)⟩
  exact a4c (by unfold a0e b2v at *; omega) (by unfold a0e b2v at *; omega)
 ·have hj2:j=a6w M:=by
   have:¬ (j < M.length∧j < 100):=fun hc=>by
    have:(decide ((j:Int) < M.length) && decide ((j:Int) < 100))=true:=by simp; omega
    rw[this] at hl; cases hl
   unfold a6w at hj ⊢
   split <;> rename_i h <;> simp only[h,if_true,if_false] at hj <;> omega
  subst hj2
  rfl
theorem n9 (nm:List (Option AV)):CallOk Tryz.prog [] 9 (n6 EL none nm [PG,.lf .i] d4l):=x4 Tryz.func9 fo9 fun av pre rv h=>by
 unfold d4l at h; split at h <;> cases h
 exact⟨⟨rfl,fun t a e=>by cases e <;> exact z0h _ _⟩,fun hp=>⟨_,v9 _ _ _ _ (hp _ (.head _)),rfl,t6,t7⟩⟩
theorem d6t:o6 Tryz.prog 102:=⟨Tryz.f102,Tryz.func102,by kernel_rfl,by kernel_rfl⟩
def d2g (a x k o:Int):Prop:=n7 (({}:Kit)).tab Tryz.f102 [.i .i64 a,.i .i64 x,.i .i64 k,.i .i64 o] [] (l4 (a5m (ev4 a x k o)))
theorem d0v (a x k o:Int):d2g a x k o=(a=(ev4 a x k o).ag∧x=(ev4 a x k o).ix∧k=(ev4 a x k o).k∧o=(ev4 a x k o).ob∧(-1:Int)=(ev4 a x k o).mu∧(-1:Int)=(ev4 a x k o).en∧(2:Int)=(ev4 a x k o).od∧(0:Int)=(ev4 a x k o).rd∧(0:Int)=(ev4 a x k o).wr):=by kernel_rfl
theorem v102 (a x k o:Int) :d2g a x k o:=by
 rw[d0v]
 exact⟨rfl,rfl,rfl,rfl,rfl,rfl,rfl,rfl,rfl⟩
theorem n102 (nm:List (Option AV)):CallOk Tryz.prog [] 102 (n6 EL none nm [.lf .i,.lf .i,.lf .i,.lf .i] d4j):=x4 Tryz.func102 d6t fun av pre rv h=>by
 unfold d4j at h; split at h <;> cases h
 exact⟨⟨rfl,fun t a e=>by cases e <;> exact z0h _ _⟩,fun hp=>⟨_,v102 _ _ _ _ ,rfl,t6,t7⟩⟩
theorem b4h {P:Nat→Prop} (h0:P 0) (h1:P 1) (h2:P 2) (h3:P 3):∀ j,j < exE.length→P j:=fun j hj=>by
 have hj:j < 4:=hj
 match j,hj with
 | 0,_=>exact h0
 | 1,_=>exact h1
 | 2,_=>exact h2
 | 3,_=>exact h3
theorem all2 {P:Nat→Prop} (h0:P 0) (h1:P 1):∀ j,j < exM.length→P j:=fun j hj=>by
 have hj:j < 2:=hj
 match j,hj with
 | 0,_=>exact h0
 | 1,_=>exact h1
theorem fo44:o6 Tryz.prog 44:=⟨Tryz.f44,Tryz.func44,by kernel_rfl,by kernel_rfl⟩
def q44D :Prop:=n7 (({ calls:=[kEv4 []] }:Kit)).tab Tryz.f44 [] [] ((QV.gr none exE exR exM).post EL)
theorem d5p :q44D =((1:Nat)=(1:Nat)∧(1:Nat)=(1:Nat)∧((4:Nat)=exE.length∧(4:Nat)=exE.length∧(∀(j:Nat),j < exE.length→e8 [(ev4 (0:Int) (0:Int) (2:Int) (0:Int)).ag,(ev4 (0:Int) (1:Int) (2:Int) (1:Int)).ag,(ev4 (1:Int) (0:Int) (1:Int) (1:Int)).ag,(ev4 (1:Int) (1:Int) (1:Int) (0:Int)).ag] j=(b6 e0 exE j).ag)∧(∀(j:Nat),j < exE.length→e8 [(ev4 (0:Int) (0:Int) (2:Int) (0:Int)).ix,(ev4 (0:Int) (1:Int) (2:Int) (1:Int)).ix,(ev4 (1:Int) (0:Int) (1:Int) (1:Int)).ix,(ev4 (1:Int) (1:Int) (1:Int) (0:Int)).ix] j=(b6 e0 exE j).ix)∧(∀(j:Nat),j < exE.length→e8 [(ev4 (0:Int) (0:Int) (2:Int) (0:Int)).k,(ev4 (0:Int) (1:Int) (2:Int) (1:Int)).k,(ev4 (1:Int) (0:Int) (1:Int) (1:Int)).k,(ev4 (1:Int) (1:Int) (1:Int) (0:Int)).k] j=(b6 e0 exE j).k)∧(∀(j:Nat),j < exE.length→e8 [(ev4 (0:Int) (0:Int) (2:Int) (0:Int)).ob,(ev4 (0:Int) (1:Int) (2:Int) (1:Int)).ob,(ev4 (1:Int) (0:Int) (1:Int) (1:Int)).ob,(ev4 (1:Int) (1:Int) (1:Int) (0:Int)).ob] j=(b6 e0 exE j).ob)∧(∀(j:Nat),j < exE.length→e8 [(ev4 (0:Int) (0:Int) (2:Int) (0:Int)).mu,(ev4 (0:Int) (1:Int) (2:Int) (1:Int)).mu,(ev4 (1:Int) (0:Int) (1:Int) (1:Int)).mu,(ev4 (1:Int) (1:Int) (1:Int) (0:Int)).mu] j=(b6 e0 exE j).mu)∧(∀(j:Nat),j < exE.length→e8 [(ev4 (0:Int) (0:Int) (2:Int) (0 :
 Int)).en,(ev4 (0:Int) (1:Int) (2:Int) (1:Int)).en,(ev4 (1:Int) (0:Int) (1:Int) (1:Int)).en,(ev4 (1:Int) (1:Int) (1:Int) (0:Int)).en] j=(b6 e0 exE j).en)∧(∀(j:Nat),j < exE.length→e8 [(ev4 (0:Int) (0:Int) (2:Int) (0:Int)).od,(ev4 (0:Int) (1:Int) (2:Int) (1:Int)).od,(ev4 (1:Int) (0:Int) (1:Int) (1:Int)).od,(ev4 (1:Int) (1:Int) (1:Int) (0:Int)).od] j=(b6 e0 exE j).od)∧(∀(j:Nat),j < exE.length→e8 [(ev4 (0:Int) (0:Int) (2:Int) (0:Int)).rd,(ev4 (0:Int) (1:Int) (2:Int) (1:Int)).rd,(ev4 (1:Int) (0:Int) (1:Int) (1:Int)).rd,(ev4 (1:Int) (1:Int) (1:Int) (0:Int)).rd] j=(b6 e0 exE j).rd)∧(∀(j:Nat),j < exE.length→e8 [(ev4 (0:Int) (0:Int) (2:Int) (0:Int)).wr,(ev4 (0:Int) (1:Int) (2:Int) (1:Int)).wr,(ev4 (1:Int) (0:Int) (1:Int) (1:Int)).wr,(ev4 (1:Int) (1:Int) (1:Int) (0:Int)).wr] j=(b6 e0 exE j).wr)∧True)∧((4:Nat)=exR.length∧(4:Nat)=exR.length∧(∀(j:Nat),j < exR.length→e8 [(-2:Int),(-2:Int),(1:Int),(-1:Int)] j=b6 (0:Int) exR j)∧True)∧(2:Nat)=exM.length∧(2:Nat)=exM.length∧((∀(j:Nat),j < exM.length→s6 (1:Nat) (1:Nat) (1:Nat) j=(b6 [] exM j).length)∧(∀(j:Nat),j < exM.length→∀(i:Nat),i < (b6 [] exM j).length→s6 (e8 [(0:Int)]) (e8 [(1:Int)]) (e8 [(1:Int)]) j i=b6 (0:Int) (b6 [] exM j) i)∧True)∧True):=by kernel_rfl
theorem v44  :q44D :=by
 rw[d5p]
 simp only[eq_self,true_and,and_true,z0o,imp_self,m5,m6,m9,g7,g9,PLoop.of,p9,AV.len,i5,z0s,j4,j7,j8,l7,l8,l9]
 refine⟨⟨rfl,rfl,b4h rfl rfl rfl rfl,b4h rfl rfl rfl rfl,b4h rfl rfl rfl rfl,b4h rfl rfl rfl rfl,b4h rfl rfl rfl rfl,b4h rfl rfl rfl rfl,b4h rfl rfl rfl rfl,b4h rfl rfl rfl rfl,b4h rfl rfl rfl rfl⟩,⟨rfl,rfl,b4h rfl rfl rfl rfl⟩,rfl,rfl,all2 rfl rfl,all2 (fun i hi=>?_) (fun i hi=>?_)⟩
 ·have hi:i < 1:=hi
  match i,hi with
  | 0,_=>rfl
 ·have hi:i < 1:=hi
  match i,hi with
  | 0,_=>rfl
theorem n44 (nm:List (Option AV)):CallOk Tryz.prog [] 44 (n6 EL none nm [] d4k):=x4 Tryz.func44 fo44 fun av pre rv h=>by
 unfold d4k at h; split at h <;> cases h
 exact⟨⟨rfl,fun t a e=>by cases e <;> exact z0h _ _⟩,fun hp=>⟨_,v44 ,rfl,(m4 (n102 _) t6),t7⟩⟩
def c7x:SpG:=fun
 | [.ag [.es E,.is R,.rs M],.lf (.i n)]=>some ([SzG E M∧(E.length:Int) < n],.gr (some (bif b8 E R M then 2 else 1)) [] [] [])
 | _=>none
def d8c (nm:List (Option AV)):Nat × (List MBlk→List SV→Option AR):=(22,n6 EL gbT nm [PG,.lf .i] c7x)
theorem fo22:o6 Tryz.prog 22:=⟨Tryz.f22,Tryz.func22,by kernel_rfl,by kernel_rfl⟩
def d3c (E:List Ev) (R:List Int) (M:List (List Int)) (n:Int):Prop:=n7 (({ g:=true,calls:=[a3k (nmT E R M)] }:Kit)).tab Tryz.f22 [a98 E R M,.i .i64 n] (grT E R M) ((QV.gr (some (bif b8 E R M then 2 else 1)) [] [] []).post EL)
theorem d23 (E:List Ev) (R:List Int) (M:List (List Int)) (n:Int):d3c E R M n=(some tbl=some tbl∧E.length=E.length∧R.length=R.length∧M.length=M.length∧nE E∧nI R∧nR M∧(E.length≤(1099511627776:Nat)∧(M.length≤(8:Nat)→∀(r:List Int),List.Mem r M→r.length≤(1099511627776:Nat)))∧((!b8 E R M)=true→((1:Int)=bif b8 E R M then(2:Int) else(1:Int))∧([]:List Pq).length=(0:Nat)∧([]:List Pq).length=(0:Nat)∧([]:List Pq).length=(0:Nat))∧((!b8 E R M)=false→((decide (n < (0:Int)) || decide (n > (↑E.length:Int)))=true→((2:Int)=bif b8 E R M then(2:Int) else(1:Int))∧([]:List Pq).length=(0:Nat)∧([]:List Pq).length=(0:Nat)∧([]:List Pq).length=(0:Nat))∧((decide (n < (0:Int)) || decide (n > (↑E.length:Int)))=false→False))):=by kernel_rfl
theorem v22a (E:List Ev) (R:List Int) (M:List (List Int)) (n:Int) (h:SzG E M∧(E.length:Int) < n):d3c E R M n:=by
 rw[d23]
 simp only[eq_self,true_and,and_true,z0o,imp_self,m5,m6,m9,g7,g9,PLoop.of,p9,AV.len,i5,z0s,j4,j7,j8,l7,l8,l9]
 refine⟨⟨h.1.1,h.1.2⟩,fun hv=>?_,fun hv=>⟨fun _=>?_,fun hc=>?_⟩⟩
 ·simp only[z0v] at hv
  rw[hv]; exact⟨rfl,rfl,rfl,rfl⟩
 ·simp only[Bool.not_eq_false'] at hv
  rw[hv]; exact⟨rfl,rfl,rfl,rfl⟩
 ·have:=h.2
  simp at hc
  omega
theorem n22a (nm:List (Option AV)):CallOk Tryz.prog GL 22 (n6 EL gbT nm [PG,.lf .i] c7x):=a4r Tryz.func22 fo22 fun av pre rv h=>by
 unfold c7x at h; split at h <;> cases h
 exact⟨⟨rfl,fun t a e=>by cases e <;> exact z0h _ _⟩,fun hp=>⟨_,v22a _ _ _ _ (hp _ (.head _)),rfl,(m4 (n33 _) t6),t7⟩⟩
def c0c:List Int:=[-2,-2,1,3]
def exV (l:List Pq):List Pq:=i9 (b8 exE exR exM) l
def a8c:List Pq:=exV (b7 exE.length (poG exE exR exM))
def b2u:List Pq:=exV (b7 exE.length (rfG exE exR exM))
def a8d:List Pq:=exV (b7 exE.length (p8 exE exR exM))
def b2t:List Pq:=exV (b7 exE.length (g8 exE exR exM))
def a6m:List Pq:=exV (a34 exE.length (poG exE exR exM) (f8 exE exR exM) (p8 exE exR exM))
def b1i:List Pq:=exV (a34 exE.length (rfG exE exR exM) (i4 exE exR exM) (g8 exE exR exM))
def b1j:List (Option AV):=[none,some (.es exE),some (.is exR),some (.rs exM),none,some (.ps a8c),none,some (.ps b2u),none,some (.ps a8d),none,some (.ps b2t),none,some (.ps a6m),none,some (.ps b1i),none,some (.es exE),some (.is c0c),some (.rs exM)]
def d49:SpG:=fun | []=>some ([],plB true) | _=>none
def d3p (nm:List (Option AV)):Nat × (List MBlk→List SV→Option AR):=(10,n6 EL gbT nm [] d49)
def kHas (nm:List (Option AV)):Nat × (List MBlk→List SV→Option AR):=(46,a1p EL nm [.r,.i,.i] c7t)
def a6v:Bool:=(bif b8 exE exR exM then(0:Int) else 1) == 0 && (bif b8 exE exR exM then(0:Int) else 1) == 0 && (bif b8 exE exR exM then(0:Int) else 1) == 0 && (bif b8 exE exR exM then(0:Int) else 1) == 0 && (bif b8 exE exR exM then(0:Int) else 1) == 0 && (bif b8 exE exR exM then(0:Int) else 1) == 0 && (bif b8 exE c0c exM then(0:Int) else 1) == 1 && (bif b8 exE exR exM then(2:Int) else 1) == 2
def exN:Int:=bif b8 exE exR exM then exE.length else 0
def b6f:Bool:=a6v && b8 exE exR exM && s5 exN a8c 4 (mkN (fun j=>(e8 [0,2] j,e8 [1,3] j)) 2) && s5 exN b2u 4 (mkN (fun j=>(e8 [1] j,e8 [2] j)) 1)
def c0d:Bool:=b6f && s5 exN a8d 4 (mkN (fun j=>(e8 [1] j,e8 [2] j)) 1) && s5 exN b2t 4 (mkN (fun j=>(e8 [3] j,e8 [0] j)) 1)
def a2k:Bool:=c0d && (d8 exN a6m && d9 a6m 0 3) && (d8 exN b1i && d9 b1i 3 0)
theorem d6s:(a2k && a36 exE exR exM exE exR exM == 0 && a36 exE c0c exM exE exR exM == -1)=true:=by kernel_rfl
theorem exSz:SzG exE exM:=⟨z1s (by kernel_rfl:Nat.ble exE.length 1099511627776=true),fun _ r hr=>by
 have:r∈exM:=hr
 simp only[exM,z0r,List.not_mem_nil,or_false] at this
 rcases this with rfl | rfl <;> decide⟩
theorem fo10:o6 Tryz.prog 10:=⟨Tryz.f10,Tryz.func10,by kernel_rfl,by kernel_rfl⟩
def q10D :Prop:=n7 (({ g:=true,calls:=[kExa [],a63 25 (w9 poG) b1j,a63 27 (w9 rfG) b1j,a63 13 (w9 p8) b1j,a63 11 (w9 g8) b1j,a63 15 (a7c poG f8 p8) b1j,a63 17 (a7c rfG i4 g8) b1j,a63 29 (w9 i4) b1j,d8c b1j,a3k b1j,kPrs b1j,kHas b1j,d8a b1j] }:Kit)).tab Tryz.f10 [] [tbl] (l4 (.b true))
theorem d57 :q10D =(some (i7 [] tbl)=some tbl∧exE.length=exE.length∧exR.length=exR.length∧exM.length=exM.length∧nE exE∧nI exR∧nR exM∧(exE.length≤(1099511627776:Nat)∧(exM.length≤(8:Nat)→∀(r:List Int),List.Mem r exM→r.length≤(1099511627776:Nat)))∧i9 (b8 exE exR exM) (b7 (↑exE.length:Int) (poG exE exR exM))=a8c∧some (i7 [] (i7 [] tbl))=some tbl∧exE.length=exE.length∧exR.length=exR.length∧exM.length=exM.length∧nE exE∧nI exR∧nR exM∧(exE.length≤(1099511627776:Nat)∧(exM.length≤(8:Nat)→∀(r:List Int),List.Mem r exM→r.length≤(1099511627776:Nat)))∧i9 (b8 exE exR exM) (b7 (↑exE.length:Int) (rfG exE exR exM))=b2u∧some (i7 [] (i7 [] (i7 [] tbl)))=some tbl∧exE.length=exE.length∧exR.length=exR.length∧exM.length=exM.length∧nE exE∧nI exR∧nR exM∧(exE.length≤(1099511627776:Nat)∧(exM.length≤(8:Nat)→∀(r:List Int),List.Mem r exM→r.length≤(1099511627776:Nat)))∧i9 (b8 exE exR exM) (b7 (↑exE.length:Int) (p8 exE exR exM))=a8d∧some (i7 [] (i7 [] (i7 [] (i7 [] tbl))))=some tbl∧exE.length=exE.length∧exR.length=exR.length∧exM.length=exM.length∧nE exE∧nI exR∧nR exM∧(exE.length≤(1099511627776:Nat)∧(exM.length≤(8:Nat)→∀(r:List Int),List.Mem r exM→r.length≤(1099511627776:Nat)))∧i9 (b8 exE exR exM) (b7 (↑exE.length:Int) (g8 exE exR exM))=b2t∧some (i7
 [] (i7 [] (i7 [] (i7 [] (i7 [] tbl)))))=some tbl∧exE.length=exE.length∧exR.length=exR.length∧exM.length=exM.length∧nE exE∧nI exR∧nR exM∧(exE.length≤(1099511627776:Nat)∧(exM.length≤(8:Nat)→∀(r:List Int),List.Mem r exM→r.length≤(1099511627776:Nat)))∧i9 (b8 exE exR exM) (a34 exE.length (poG exE exR exM) (f8 exE exR exM) (p8 exE exR exM))=a6m∧some (i7 [] (i7 [] (i7 [] (i7 [] (i7 [] (i7 [] tbl))))))=some tbl∧exE.length=exE.length∧exR.length=exR.length∧exM.length=exM.length∧nE exE∧nI exR∧nR exM∧(exE.length≤(1099511627776:Nat)∧(exM.length≤(8:Nat)→∀(r:List Int),List.Mem r exM→r.length≤(1099511627776:Nat)))∧i9 (b8 exE exR exM) (a34 exE.length (rfG exE exR exM) (i4 exE exR exM) (g8 exE exR exM))=b1i∧((0:Int)≤(3:Int)∧(3:Int) < (↑exR.length:Int))∧Int.toNat (3:Int) < exR.length∧some (i7 [] (i7 [] (i7 [] (i7 [] (i7 [] (i7 [] (i7 [] (i7 [] (i7 [] tbl)))))))))=some tbl∧exE.length=exE.length∧exR.length=exR.length∧exM.length=exM.length∧nE exE∧mkN (fun(j:Nat)=>bif j.beq (Int.toNat (3:Int)) then(3:Int) else b6 (0:Int) exR j) exR.length=c0c∧nR exM∧(exE.length≤(1099511627776:Nat)∧(exM.length≤(8:Nat)→∀(r:List Int),List.Mem r exM→r.length≤(1099511627776:Nat)))∧some (i7 [] (i7 [] (i7 [] (i7 [] (i7 [] (i7 [] (i7 [] (i7
 [] (i7 [] (i7 [] tbl))))))))))=some tbl∧exE.length=exE.length∧exR.length=exR.length∧exM.length=exM.length∧nE exE∧nI exR∧nR exM∧((exE.length≤(1099511627776:Nat)∧(exM.length≤(8:Nat)→∀(r:List Int),List.Mem r exM→r.length≤(1099511627776:Nat)))∧(↑exE.length:Int) < (5:Int))∧((a6v)=true→some (i7 [] (i7 [] (i7 [] (i7 [] (i7 [] (i7 [] (i7 [] (i7 [] (i7 [] (i7 [] (i7 [] (i7 [] tbl))))))))))))=some tbl)∧((a6v)=true→exE.length=exE.length)∧((a6v)=true→exR.length=exR.length)∧((a6v)=true→exM.length=exM.length)∧((a6v)=true→nE exE)∧((a6v)=true→nI exR)∧((a6v)=true→nR exM)∧((a6v)=true→exE.length≤(1099511627776:Nat)∧(exM.length≤(8:Nat)→∀(r:List Int),List.Mem r exM→r.length≤(1099511627776:Nat)))∧((a6v && b8 exE exR exM)=true→(AV.ps a8c).len=(AV.ps a8c).len)∧((a6v && b8 exE exR exM)=true→mkN (fun(j:Nat)=>((b6 ((0:Int),(0:Int)) a8c j).fst,(b6 ((0:Int),(0:Int)) a8c j).snd)) (AV.ps a8c).len=a8c)∧((a6v && b8 exE exR exM)=true→(2:Nat)=(2:Nat))∧((a6v && b8 exE exR exM)=true→a8c.length≤(1099511627776:Nat))∧((a6v && b8 exE exR exM && s5 exN a8c (4:Int) (mkN (fun(j:Nat)=>(e8 [(0:Int),(2:Int)] j,e8 [(1:Int),(3:Int)] j)) (2:Nat)))=true→(AV.ps b2u).len=(AV.ps b2u).len)∧((a6v && b8 exE exR exM && s5
 exN a8c (4:Int) (mkN (fun(j:Nat)=>(e8 [(0:Int),(2:Int)] j,e8 [(1:Int),(3:Int)] j)) (2:Nat)))=true→mkN (fun(j:Nat)=>((b6 ((0:Int),(0:Int)) b2u j).fst,(b6 ((0:Int),(0:Int)) b2u j).snd)) (AV.ps b2u).len=b2u)∧((a6v && b8 exE exR exM && s5 exN a8c (4:Int) (mkN (fun(j:Nat)=>(e8 [(0:Int),(2:Int)] j,e8 [(1:Int),(3:Int)] j)) (2:Nat)))=true→(1:Nat)=(1:Nat))∧((a6v && b8 exE exR exM && s5 exN a8c (4:Int) (mkN (fun(j:Nat)=>(e8 [(0:Int),(2:Int)] j,e8 [(1:Int),(3:Int)] j)) (2:Nat)))=true→b2u.length≤(1099511627776:Nat))∧((b6f)=true→(AV.ps a8d).len=(AV.ps a8d).len)∧((b6f)=true→mkN (fun(j:Nat)=>((b6 ((0:Int),(0:Int)) a8d j).fst,(b6 ((0:Int),(0:Int)) a8d j).snd)) (AV.ps a8d).len=a8d)∧((b6f)=true→(1:Nat)=(1:Nat))∧((b6f)=true→a8d.length≤(1099511627776:Nat))∧((b6f && s5 exN a8d (4:Int) (mkN (fun(j:Nat)=>(e8 [(1:Int)] j,e8 [(2:Int)] j)) (1:Nat)))=true→(AV.ps b2t).len=(AV.ps b2t).len)∧((b6f && s5 exN a8d (4:Int) (mkN (fun(j:Nat)=>(e8 [(1:Int)] j,e8 [(2:Int)] j)) (1:Nat)))=true→mkN (fun(j:Nat)=>((b6 ((0:Int),(0:Int)) b2t j).fst,(b6 ((0:Int),(0:Int)) b2t j).snd)) (AV.ps b2t).len=b2t)∧((b6f && s5 exN a8d (4:Int) (mkN (fun(j:Nat)=>(e8 [(1:Int)] j,e8 [(2:Int)] j)) (1:Nat))) =
 true→(1:Nat)=(1:Nat))∧((b6f && s5 exN a8d (4:Int) (mkN (fun(j:Nat)=>(e8 [(1:Int)] j,e8 [(2:Int)] j)) (1:Nat)))=true→b2t.length≤(1099511627776:Nat))∧((c0d)=true→(AV.ps a6m).len=(AV.ps a6m).len)∧((c0d)=true→mkN (fun(j:Nat)=>((b6 ((0:Int),(0:Int)) a6m j).fst,(b6 ((0:Int),(0:Int)) a6m j).snd)) (AV.ps a6m).len=a6m)∧((c0d)=true→a6m.length≤(1099511627776:Nat))∧((c0d && (d8 exN a6m && d9 a6m (0:Int) (3:Int)))=true→(AV.ps b1i).len=(AV.ps b1i).len)∧((c0d && (d8 exN a6m && d9 a6m (0:Int) (3:Int)))=true→mkN (fun(j:Nat)=>((b6 ((0:Int),(0:Int)) b1i j).fst,(b6 ((0:Int),(0:Int)) b1i j).snd)) (AV.ps b1i).len=b1i)∧((c0d && (d8 exN a6m && d9 a6m (0:Int) (3:Int)))=true→b1i.length≤(1099511627776:Nat))∧((a2k)=true→some (i7 [] (i7 [] (i7 [] (i7 [] (i7 [] (i7 [] (i7 [] (i7 [] (i7 [] (i7 [] (i7 [] (i7 [] tbl))))))))))))=some tbl)∧((a2k)=true→exE.length=exE.length)∧((a2k)=true→exR.length=exR.length)∧((a2k)=true→exM.length=exM.length)∧((a2k)=true→nE exE)∧((a2k)=true→nI exR)∧((a2k)=true→nR exM)∧((a2k)=true→exE.length=exE.length)∧((a2k)=true→exR.length=exR.length)∧((a2k)=true→exM.length=exM.length)∧((a2k)=true→nE exE)∧((a2k)=true→nI exR)∧((a2k)=true→nR exM)∧((a2k)=true →
 exE.length≤(1099511627776:Nat)∧(exM.length≤(8:Nat)→∀(r:List Int),List.Mem r exM→r.length≤(1099511627776:Nat)))∧((a2k)=true→exE.length≤(1099511627776:Nat)∧(exM.length≤(8:Nat)→∀(r:List Int),List.Mem r exM→r.length≤(1099511627776:Nat)))∧((a2k && a36 exE exR exM exE exR exM == (0:Int))=true→some (i7 [] (i7 [] (i7 [] (i7 [] (i7 [] (i7 [] (i7 [] (i7 [] (i7 [] (i7 [] (i7 [] (i7 [] tbl))))))))))))=some tbl)∧((a2k && a36 exE exR exM exE exR exM == (0:Int))=true→exE.length=exE.length)∧((a2k && a36 exE exR exM exE exR exM == (0:Int))=true→exR.length=exR.length)∧((a2k && a36 exE exR exM exE exR exM == (0:Int))=true→exM.length=exM.length)∧((a2k && a36 exE exR exM exE exR exM == (0:Int))=true→nE exE)∧((a2k && a36 exE exR exM exE exR exM == (0:Int))=true→mkN (fun(j:Nat)=>bif j.beq (Int.toNat (3:Int)) then(3:Int) else b6 (0:Int) exR j) exR.length=c0c)∧((a2k && a36 exE exR exM exE exR exM == (0:Int))=true→nR exM)∧((a2k && a36 exE exR exM exE exR exM == (0:Int))=true→exE.length=exE.length)∧((a2k && a36 exE exR exM exE exR exM == (0:Int))=true→exR.length=exR.length)∧((a2k && a36 exE exR exM exE exR exM == (0:Int))=true→exM.length=exM.length)∧((a2k && a36 exE exR exM exE exR exM == (0:Int))=true→nE exE)∧((a2k && a36 exE exR exM exE exR exM == (0:Int))=true→nI
 exR)∧((a2k && a36 exE exR exM exE exR exM == (0:Int))=true→nR exM)∧((a2k && a36 exE exR exM exE exR exM == (0:Int))=true→exE.length≤(1099511627776:Nat)∧(exM.length≤(8:Nat)→∀(r:List Int),List.Mem r exM→r.length≤(1099511627776:Nat)))∧((a2k && a36 exE exR exM exE exR exM == (0:Int))=true→exE.length≤(1099511627776:Nat)∧(exM.length≤(8:Nat)→∀(r:List Int),List.Mem r exM→r.length≤(1099511627776:Nat)))∧(a2k && a36 exE exR exM exE exR exM == (0:Int) && a36 exE c0c exM exE exR exM == (-1:Int))=true):=by kernel_rfl
theorem v10  :q10D :=by
 rw[d57]
 simp only[eq_self,true_and,and_true,z0o,imp_self,m5,m6,m9,g7,g9,PLoop.of,p9,AV.len,i5,z0s,j4,j7,j8,l7,l8,l9]
 have hS:=exSz
 have hS:exE.length≤1099511627776∧(exM.length≤8→∀ r:List Int,List.Mem r exM→r.length≤1099511627776):=⟨hS.1,hS.2⟩
 have hR:mkN (fun j=>bif j.beq (Int.toNat 3) then 3 else b6 0 exR j) exR.length=c0c:=by kernel_rfl
 exact⟨hS,rfl,hS,rfl,hS,rfl,hS,rfl,hS,rfl,hS,rfl,⟨by decide,by decide⟩,by decide,hR,hS,⟨hS,by decide⟩,fun _=>hS,fun _=>z1s (by kernel_rfl:Nat.ble a8c.length 1099511627776=true),fun _=>z1s (by kernel_rfl:Nat.ble b2u.length 1099511627776=true),fun _=>z1s (by kernel_rfl:Nat.ble a8d.length 1099511627776=true),fun _=>z1s (by kernel_rfl:Nat.ble b2t.length 1099511627776=true),fun _=>z1s (by kernel_rfl:Nat.ble a6m.length 1099511627776=true),fun _=>z1s (by kernel_rfl:Nat.ble b1i.length 1099511627776=true),fun _=>hS,fun _=>hS,fun _=>hR,fun _=>hS,fun _=>hS,d6s⟩
theorem n10 (nm:List (Option AV)):CallOk Tryz.prog GL 10 (n6 EL gbT nm [] d49):=a4r Tryz.func10 fo10 fun av pre rv h=>by
 unfold d49 at h; split at h <;> cases h
 exact⟨⟨rfl,fun t a e=>by cases e <;> exact z0h _ _⟩,fun hp=>⟨_,v10 ,rfl,(m4 (a11 (n44 _)) (m4 (n25 _) (m4 (n27 _) (m4 (n13 _) (m4 (n11 _) (m4 (n15 _) (m4 (n17 _) (m4 (n29 _) (m4 (n22a _) (m4 (n33 _) (m4 (a11 (n45 _)) (m4 (a11 (n46 _)) (m4 (n42 _) t6))))))))))))),t7⟩⟩
def vL (E:List Ev) (R:List Int) (M:List (List Int)) (f:GF):List Pq:=i9 (b8 E R M) (b7 E.length (f E R M))
def vC1 (E:List Ev) (R:List Int) (M:List (List Int)) (a b c:GF):List Pq:=i9 (b8 E R M) (a34 E.length (a E R M) (b E R M) (c E R M))
def vC (E:List Ev) (R:List Int) (M:List (List Int)) (f:GF):List Pq:=i9 (b8 E R M) (c30 E.length (f E R M))
def vN (E:List Ev) (R:List Int) (M:List (List Int)):Int:=bif b8 E R M then E.length else 0
def vE (E:List Ev) (R:List Int) (M:List (List Int)):Int:=bif b8 E R M then 0 else 1
def nm3 (E:List Ev) (R:List Int) (M:List (List Int)):List (Option AV):=[none,some (.es E),some (.is R),some (.rs M),none,some (.ps (vL E R M g8)),none,some (.ps (vL E R M (d6 ⟨#[102]⟩))),none,some (.ps (vL E R M p8)),none,some (.ps (vL E R M (d6 ⟨#[119]⟩))),none,some (.ps (vC1 E R M poG f8 p8)),none,some (.ps (vC E R M (d6 ⟨#[112,115,119]⟩))),none,some (.ps (vC1 E R M rfG i4 g8)),none,some (.ps (vC E R M (d6 ⟨#[114,109,102]⟩)))]
def nm5 (E:List Ev) (R:List Int) (M:List (List Int)):List (Option AV):=[none,some (.es E),some (.is R),some (.rs M),none,some (.ps (vL E R M poG)),none,some (.ps (vL E R M (d6 ⟨#[112]⟩))),none,some (.ps (vL E R M rfG)),none,some (.ps (vL E R M (d6 ⟨#[114]⟩))),none,some (.ps (vL E R M i4)),none,some (.ps (vL E R M (d6 ⟨#[109]⟩))),none,some (.ps (vL E R M f8)),none,some (.ps (vL E R M (d6 ⟨#[115]⟩)))]
end Go.Proofs.YtaeeaniofljmnaaGreatDoor

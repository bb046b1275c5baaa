/-
  A part of the proof (N55a).
-/
import Derived.Test.YtaeeaniofljmnaaGreatDoorN46a
import Derived.Test.YtaeeaniofljmnaaGreatDoorN2
import Derived.Test.YtaeeaniofljmnaaGreatDoorN15
import Derived.Test.YtaeeaniofljmnaaGreatDoorYx16
import Derived.Test.YtaeeaniofljmnaaGreatDoorYx14
import Derived.Test.YtaeeaniofljmnaaGreatDoorCards
import Derived.Test.YtaeeaniofljmnaaGreatDoorTie
import Derived.WalkKit
import Derived.ProofKit
import Derived.OpenShut
import Derived.Deep.DeepHandedRow
import Derived.SizedLaws
import Derived.Lib.LaidTab
namespace Go.Proofs.YtaeeaniofljmnaaGreatDoor
set_option linter.unusedSimpArgs false
set_option linter.unusedVariables false
open Go Go.Proofs.YtaeeaniofljmnaaGreatDoor.Sx
set_option maxRecDepth 100000
theorem d2f {E:List Ev} {R:List Int} {M:List (List Int)} (h:SzG E M):(noE E R M).length≤1099511627776∧(noR E R M).length≤1099511627776∧(noM E R M).length≤1099511627776∧∀ r:List Int,List.Mem r (noM E R M)→r.length≤1099511627776:=by
 unfold noE noR noM
 cases hk:o6 E R M
 ·simp only[i5,z0m]
  exact⟨by simp,by simp,by simp,fun r h=>nomatch h⟩
 ·simp only[o6,z0d] at hk
  obtain⟨hG,hN⟩:=a25 hk.1 h
  obtain⟨hM,hR⟩:=a2a hk.1
  simp only[i5,z0f,arE,arR,arM,List.length_map,v8,a4f]
  refine⟨by omega,by omega,by omega,fun r hr=>?_⟩
  obtain⟨q,hq,rfl⟩:=z2h.1 (show r∈_ from hr)
  rw[List.length_map]
  exact h.2 hM q hq
theorem or3 (a b c:Int):orF (mkN (e8 [a,b,c]) 3)=orF [a,b,c]:=rfl
theorem fo42:o8 Tryz.prog 42:=⟨Tryz.f42,Tryz.func42,by kernel_rfl,by kernel_rfl⟩
def q42D (E:List Ev) (R:List Int) (M:List (List Int)) (E':List Ev) (R':List Int) (M':List (List Int)):Prop:=n9 (({ g:=true,calls:=[d7r (c6p E R M E' R' M'),kCmF (c6p E R M E' R' M'),kCmL (c6p E R M E' R' M'),kCmM (c6p E R M E' R' M'),kOr (c6p E R M E' R' M')] }:Kit)).tab Tryz.f42 [b4k E R M,d7l E' R' M'] (grT2 E R M E' R' M') (l8 (.i .i64 (a30 E R M E' R' M')))
theorem d5c (E:List Ev) (R:List Int) (M:List (List Int)) (E':List Ev) (R':List Int) (M':List (List Int)):q42D E R M E' R' M'=(
 let a:=i5 (o6 E' R' M') (arM M' (v8 E' R' M'))
 let b:=(1099511627776:Nat)
 let c:=i5 (o6 E R M) (arM M (v8 E R M))
 let d:=i5 (o6 E' R' M') (arE E' (v8 E' R' M'))
 let e:=i5 (o6 E' R' M') (arR R' (v8 E' R' M'))
 let f:=mkN (e8 [u6 a4y (noE E R M) (noE E' R' M'),u6 j9 (noR E R M) (noR E' R' M'),b2n (noM E R M) (noM E' R' M')]) (3:Nat)
 let g:=i5 (o6 E R M) (arE E (v8 E R M))
 let h:=i5 (o6 E R M) (arR R (v8 E R M))
 let k:=(0:Int)
 let l:=a3b E R M !=k && a3b E' R' M' !=k
 some tbl=some tbl∧E.length=E.length∧R.length=R.length∧M.length=M.length∧nE E∧nI R∧nR M∧(E.length≤b∧(M.length≤(8:Nat)→∀(r:List Int),List.Mem r M→r.length≤b))∧some (l9 [] tbl)=some tbl∧E'.length=E'.length∧R'.length=R'.length∧M'.length=M'.length∧mkN (fun(j:Nat)=>b8 e0 E' j) E'.length=E'∧mkN (b8 k R') R'.length=R'∧mkN (fun(j:Nat)=>mkN (fun(i:Nat)=>b8 k (b8 [] M' j) i) (b8 [] M' j).length) M'.length=M'∧(E'.length≤b∧(M'.length≤(8:Nat)→∀(r:List Int),List.Mem r M'→r.length≤b))∧(l=true→k=a30 E R M E' R' M')∧(l=false→((a3b E R M !=k)=true→(-1:Int)=a30 E R M E' R' M')∧((a3b E R M !=k)=false→((a3b E' R' M' !=k)=true→(1:Int)=a30 E R M E' R' M')∧((a3b E' R' M' !=k)=false→g.length=g.length∧mkN (fun(j:Nat)=>b8 e0 g j) g.length=noE E R M∧d.length=d.length∧mkN (fun(j:Nat)=>b8 e0 d j) d.length=noE E' R' M'∧(noE E R M).length≤b∧h.length=h.length∧mkN (b8 k h) h.length=noR E R M∧e.length=e.length∧mkN (b8 k e) e.length=noR E' R' M'∧(noR E R M).length≤b∧c.length=c.length∧mkN (fun(j:Nat)=>mkN (fun(i:Nat)=>b8 k (b8 [] c j) i) (b8 [] c j).length) c.length=noM E R M∧a.length=a.length∧mkN (fun(j:Nat)=>mkN (fun(i:Nat)=>b8 k (b8 [] a j) i) (b8 [] a j).length) a.length=noM E' R' M'∧(((noM E R M).length≤b∧(noM E' R' M').length≤b)∧∀(r:List Int),List.Mem r (noM E R M)→r.length≤b)∧(3:Nat)=(3:Nat)∧f.length≤b∧orF f=a30 E R M E' R' M')))):=by kernel_rfl
theorem v42 (E:List Ev) (R:List Int) (M:List (List Int)) (E':List Ev) (R':List Int) (M':List (List Int)) (h:SzG E M) (h':SzG E' M'):q42D E R M E' R' M':=by
 rw[d5c]
 simp only[eq_self,true_and,and_true,z0p,imp_self,m5,n5,o0,g8,i9,PLoop.of,s5,AV.len,j5,z0v,j8,l5,l6,m6,m7,m8]
 have h1:=d2f (R:=R) h
 have h2:=d2f (R:=R') h'
 refine⟨⟨h.1,h.2⟩,⟨h'.1,h'.2⟩,fun hc=>?_,fun hc=>⟨fun hd=>?_,fun hd=>⟨fun he=>?_,fun he=>?_⟩⟩⟩
 ·simp only[z0d] at hc
  simp[a30,hc]
 ·rw[hd,z1j] at hc
  simp[a30,hd,hc]
 ·simp[a30,hd,he]
 refine⟨rfl,rfl,h1.1,rfl,rfl,h1.2.1,rfl,rfl,⟨⟨h1.2.2.1,h2.2.2.1⟩,h1.2.2.2⟩,by omega,?_⟩
 rw[or3]
 simp[a30,hd,he]
theorem n42 (nm:List (Option AV)):CallOk Tryz.prog GL 42 (n8 EL gbT nm [PG,PG] c7y):=a4r Tryz.func42 fo42 fun av pre rv h=>by
 unfold c7y at h; split at h <;> cases h
 exact⟨⟨rfl,fun t a e=>by cases e <;> exact z0k _ _⟩,fun hp=>⟨_,v42 _ _ _ _ _ _ (hp _ (.head _)) (hp _ (.tail _ (.head _))),rfl,(m9 (n20 _) (m9 (a0y (n97 _)) (m9 (a0y (n99 _)) (m9 (a0y (n92 _)) (m9 (a0y (n96 _)) v4))))),v5⟩⟩
def b1b (l m:List Pq):Nat→Bool
 | 0=>true
 | j + 1=>b1b l m j && ((b8 (0,0) l j).1 == (b8 (0,0) m j).1 && (b8 (0,0) l j).2 == (b8 (0,0) m j).2)
def a57 (N:Int) (l:List Pq) (N':Int) (m:List Pq):Bool:=!(N != N' || (l.length:Int) != (m.length:Int)) && b1b l m l.length
def c9n (l m:List Pq) (t:Nat):LAnn:=s5 l.length t (fun j=>b1b l m j=true) (fun _=>[]) []
def d4f:SpP:=fun | [.lf (.r N l),.lf (.r N' m)]=>some ([L9 l],plB (a57 N l N' m)) | _=>none
def kPrs (nm:List (Option AV)):Nat × (List MBlk→List SV→Option AR):=(45,n8 EL none nm [.lf .r,.lf .r] d4f)
def sAgr:SpP:=fun | [.lf (.r N l),.lf (.i e),.lf (.r N' m),.lf (.i e')]=>some ([L9 l],plB (a57 N l N' m && e == e')) | _=>none
def exE:List Ev:=[⟨0,0,2,0,-1,-1,2,0,0⟩,⟨0,1,2,1,-1,-1,2,0,0⟩,⟨1,0,1,1,-1,-1,2,0,0⟩,⟨1,1,1,0,-1,-1,2,0,0⟩]
def exR:List Int:=[-2,-2,1,-1]
def exM:List (List Int):=[[0],[1]]
def ev4 (a x k o:Int):Ev:=⟨a,x,k,o,-1,-1,2,0,0⟩
def d4a:SpP:=fun | [.lf (.i a),.lf (.i x),.lf (.i k),.lf (.i o)]=>some ([],.rv (.pl (a6k (ev4 a x k o)))) | _=>none
def kEv4 (nm:List (Option AV)):Nat × (List MBlk→List SV→Option AR):=(102,n8 EL none nm [.lf .i,.lf .i,.lf .i,.lf .i] d4a)
def d4b:SpG:=fun | []=>some ([],.gr none exE exR exM) | _=>none
def kExa (nm:List (Option AV)):Nat × (List MBlk→List SV→Option AR):=(44,n8 EL none nm [] d4b)
theorem c39 {l m:List Pq} {k:Nat} (h:b1b l m k=true):∀ d j,j + d=k→b1b l m j=true:=by
 intro d
 induction d generalizing k with
 | zero=>intro j e; subst e; exact h
 | succ d ih =>
  intro j e
  obtain⟨k,rfl⟩:∃ k',k=k' + 1:=⟨j + d,by omega⟩
  simp only[b1b,z0d] at h
  exact ih h.1 j (by omega)
theorem fo45:o8 Tryz.prog 45:=⟨Tryz.f45,Tryz.func45,by kernel_rfl,by kernel_rfl⟩
def q45D (N:Int) (l:List Pq) (N':Int) (m:List Pq):Prop:=n9 (({ loops:=[(0,.of (c9n l m 5))] }:Kit)).tab Tryz.f45 [.agg [.i .i64 N,.sl 0 l.length],.agg [.i .i64 N',.sl 1 m.length]] [.arr l.length (a1n l),.arr m.length (a1n m)] (l8 (.b (a57 N l N' m)))
theorem d5e (N:Int) (l:List Pq) (N':Int) (m:List Pq):q45D N l N' m=(
 let a:=((0:Int),(0:Int))
 let b:=(↑l.length:Int)
 let c:=N !=N' || b !=(↑m.length:Int)
 let d:=PLoop.of (c9n l m (5:Nat))
 let e:=N'=N'∧m.length=m.length
 let f:=N=N∧l.length=l.length
 (c=true→false=a57 N l N' m)∧(c=false→∃(x:PUnit),(∃(x:Nat),(x≤l.length∧b1b l m x=true)∧((0:Int)=(↑x:Int)∧True)∧True)∧∀(x_1:Nat),x_1≤l.length∧b1b l m x_1=true→(decide ((↑x_1:Int) < b)=true→((0:Int)≤(↑x_1:Int)∧(↑x_1:Int) < b)∧x_1 < l.length∧((0:Int)≤(↑x_1:Int)∧(↑x_1:Int) < (↑m.length:Int))∧x_1 < m.length∧((!((b8 a l x_1).fst ==(b8 a m x_1).fst && (b8 a l x_1).snd ==(b8 a m x_1).snd))=true→false=a57 N l N' m)∧((!((b8 a l x_1).fst ==(b8 a m x_1).fst && (b8 a l x_1).snd ==(b8 a m x_1).snd))=false→∃(x_2:Nat),(x_2≤l.length∧b1b l m x_2=true)∧(d.ann x).mu x_2 < (d.ann x).mu x_1∧(f∧e∧True∧True∧IntKind.i64.wrap ((↑x_1:Int) + (1:Int))=(↑x_2:Int)∧True∧N=N∧True∧N'=N'∧(N !=N')=(N !=N')∧(N !=N')=(N !=N')∧false=false∧True)∧eqA l.length (a1n l)∧eqA m.length (a1n m)∧f∧e∧True))∧(decide ((↑x_1:Int) < b)=false→true=a57 N l N' m))):=by kernel_rfl
theorem v45 (N:Int) (l:List Pq) (N':Int) (m:List Pq) (h:L9 l):q45D N l N' m:=by
 rw[d5e]
 simp only[eq_self,true_and,and_true,z0p,imp_self,m5,n5,o0,g8,i9,PLoop.of,s5,AV.len,j5,z0v,j8,l5,l6,m6,m7,m8,c9n]
 refine⟨fun hc=>by rw[a57,hc]; rfl,fun hc=>⟨(),⟨0,⟨by omega,rfl⟩,rfl⟩,fun j hj=>⟨fun hlj=>?_,fun hlj=>?_⟩⟩⟩
 ·have hj2:j < l.length:=by have:=z0e hlj; omega
  have hlen:(l.length:Int)=m.length:=by simp at hc; omega
  refine⟨⟨by omega,by omega⟩,hj2,⟨by omega,by omega⟩,by omega,fun hd=>?_,fun hd=>⟨j + 1,⟨by omega,?_⟩,by omega,wrS (n:=l.length) hj2 h⟩⟩
  ·rw[a57,hc,z2y,z1j]
   cases he:b1b l m l.length
   ·rfl
   ·have:=c39 he (l.length - (j + 1)) (j + 1) (by omega)
    rw[b1b,z0d] at this
    rw[this.2] at hd
    cases hd
  ·show(b1b l m j && _)=true
   rw[hj.2,z1j]
   simpa using hd
 have hj2:j=l.length:=by have:=z0l hlj; omega
 subst hj2
 rw[a57,hc,hj.2]
 rfl
theorem n45 (nm:List (Option AV)):CallOk Tryz.prog [] 45 (n8 EL none nm [.lf .r,.lf .r] d4f):=y5 Tryz.func45 fo45 fun av pre rv h=>by
 unfold d4f at h; split at h <;> cases h
 exact⟨⟨rfl,fun t a e=>by cases e <;> exact z0k _ _⟩,fun hp=>⟨_,v45 _ _ _ _ (hp _ (.head _)),rfl,v4,v5⟩⟩
theorem d6h:o8 Tryz.prog 102:=⟨Tryz.f102,Tryz.func102,by kernel_rfl,by kernel_rfl⟩
def d2h (a x k o:Int):Prop:=n9 (({}:Kit)).tab Tryz.f102 [.i .i64 a,.i .i64 x,.i .i64 k,.i .i64 o] [] (l8 (a6k (ev4 a x k o)))
theorem d10 (a x k o:Int):d2h a x k o=(a=(ev4 a x k o).ag∧x=(ev4 a x k o).ix∧k=(ev4 a x k o).k∧o=(ev4 a x k o).ob∧(-1:Int)=(ev4 a x k o).mu∧(-1:Int)=(ev4 a x k o).en∧(2:Int)=(ev4 a x k o).od∧(0:Int)=(ev4 a x k o).rd∧(0:Int)=(ev4 a x k o).wr):=by kernel_rfl
theorem v102 (a x k o:Int) :d2h a x k o:=by
 rw[d10]
 exact⟨rfl,rfl,rfl,rfl,rfl,rfl,rfl,rfl,rfl⟩
theorem n102 (nm:List (Option AV)):CallOk Tryz.prog [] 102 (n8 EL none nm [.lf .i,.lf .i,.lf .i,.lf .i] d4a):=y5 Tryz.func102 d6h fun av pre rv h=>by
 unfold d4a at h; split at h <;> cases h
 exact⟨⟨rfl,fun t a e=>by cases e <;> exact z0k _ _⟩,fun hp=>⟨_,v102 _ _ _ _ ,rfl,v4,v5⟩⟩
theorem b4f {P:Nat→Prop} (h0:P 0) (h1:P 1) (h2:P 2) (h3:P 3):∀ j,j < exE.length→P j:=fun j hj=>by
 have hj:j < 4:=hj
 match j,hj with
 | 0,_=>exact h0
 | 1,_=>exact h1
 | 2,_=>exact h2
 | 3,_=>exact h3
theorem all2 {P:Nat→Prop} (h0:P 0) (h1:P 1):∀ j,j < exM.length→P j:=fun j hj=>by
 have hj:j < 2:=hj
 match j,hj with
 | 0,_=>exact h0
 | 1,_=>exact h1
theorem fo44:o8 Tryz.prog 44:=⟨Tryz.f44,Tryz.func44,by kernel_rfl,by kernel_rfl⟩
def q44D :Prop:=n9 (({ calls:=[kEv4 []] }:Kit)).tab Tryz.f44 [] [] ((QV.gr none exE exR exM).post EL)
theorem d5d :q44D =(
 let a:=(1:Int)
 let b:=(0:Int)
 let c:=ev4 b b (2:Int) b
 let d:=ev4 b a (2:Int) a
 let e:=ev4 a b a a
 let f:=ev4 a a a b
 let g:=(1:Nat)
 g=g∧g=g∧((4:Nat)=exE.length∧(4:Nat)=exE.length∧(∀(j:Nat),j < exE.length→e8 [c.ag,d.ag,e.ag,f.ag] j=(b8 e0 exE j).ag)∧(∀(j:Nat),j < exE.length→e8 [c.ix,d.ix,e.ix,f.ix] j=(b8 e0 exE j).ix)∧(∀(j:Nat),j < exE.length→e8 [c.k,d.k,e.k,f.k] j=(b8 e0 exE j).k)∧(∀(j:Nat),j < exE.length→e8 [c.ob,d.ob,e.ob,f.ob] j=(b8 e0 exE j).ob)∧(∀(j:Nat),j < exE.length→e8 [c.mu,d.mu,e.mu,f.mu] j=(b8 e0 exE j).mu)∧(∀(j:Nat),j < exE.length→e8 [c.en,d.en,e.en,f.en] j=(b8 e0 exE j).en)∧(∀(j:Nat),j < exE.length→e8 [c.od,d.od,e.od,f.od] j=(b8 e0 exE j).od)∧(∀(j:Nat),j < exE.length→e8 [c.rd,d.rd,e.rd,f.rd] j=(b8 e0 exE j).rd)∧(∀(j:Nat),j < exE.length→e8 [c.wr,d.wr,e.wr,f.wr] j=(b8 e0 exE j).wr)∧True)∧((4:Nat)=exR.length∧(4:Nat)=exR.length∧(∀(j:Nat),j < exR.length→e8 [(-2:Int),(-2:Int),a,(-1:Int)] j=b8 b exR j)∧True)∧(2:Nat)=exM.length∧(2:Nat)=exM.length∧((∀(j:Nat),j < exM.length→s6 g g g j=(b8 [] exM j).length)∧(∀(j:Nat),j < exM.length→∀(i:Nat),i < (b8 [] exM j).length→s6 (e8 [b]) (e8 [a]) (e8 [a]) j i=b8 b (b8 [] exM j) i)∧True)∧True):=by kernel_rfl
theorem v44  :q44D :=by
 rw[d5d]
 simp only[eq_self,true_and,and_true,z0p,imp_self,m5,n5,o0,g8,i9,PLoop.of,s5,AV.len,j5,z0v,j8,l5,l6,m6,m7,m8]
 refine⟨⟨rfl,rfl,b4f rfl rfl rfl rfl,b4f rfl rfl rfl rfl,b4f rfl rfl rfl rfl,b4f rfl rfl rfl rfl,b4f rfl rfl rfl rfl,b4f rfl rfl rfl rfl,b4f rfl rfl rfl rfl,b4f rfl rfl rfl rfl,b4f rfl rfl rfl rfl⟩,⟨rfl,rfl,b4f rfl rfl rfl rfl⟩,rfl,rfl,all2 rfl rfl,all2 (fun i hi=>?_) (fun i hi=>?_)⟩
 ·have hi:i < 1:=hi
  match i,hi with
  | 0,_=>rfl
 ·have hi:i < 1:=hi
  match i,hi with
  | 0,_=>rfl
theorem n44 (nm:List (Option AV)):CallOk Tryz.prog [] 44 (n8 EL none nm [] d4b):=y5 Tryz.func44 fo44 fun av pre rv h=>by
 unfold d4b at h; split at h <;> cases h
 exact⟨⟨rfl,fun t a e=>by cases e <;> exact z0k _ _⟩,fun hp=>⟨_,v44 ,rfl,(m9 (n102 _) v4),v5⟩⟩
def c84:SpG:=fun
 | [.ag [.es E,.is R,.rs M],.lf (.i n)]=>some ([SzG E M∧(E.length:Int) < n],.gr (some (bif d6 E R M then 2 else 1)) [] [] [])
 | _=>none
def d7s (nm:List (Option AV)):Nat × (List MBlk→List SV→Option AR):=(22,n8 EL gbT nm [PG,.lf .i] c84)
theorem fo22:o8 Tryz.prog 22:=⟨Tryz.f22,Tryz.func22,by kernel_rfl,by kernel_rfl⟩
def d36 (E:List Ev) (R:List Int) (M:List (List Int)) (n:Int):Prop:=n9 (({ g:=true,calls:=[a49 (nmT E R M)] }:Kit)).tab Tryz.f22 [b4k E R M,.i .i64 n] (grT E R M) ((QV.gr (some (bif d6 E R M then 2 else 1)) [] [] []).post EL)
theorem d21 (E:List Ev) (R:List Int) (M:List (List Int)) (n:Int):d36 E R M n=(
 let a:=decide (n < (0:Int)) || decide (n > (↑E.length:Int))
 let b:=([]:List Pq)
 let c:=(0:Nat)
 some tbl=some tbl∧E.length=E.length∧R.length=R.length∧M.length=M.length∧nE E∧nI R∧nR M∧(E.length≤(1099511627776:Nat)∧(M.length≤(8:Nat)→∀(r:List Int),List.Mem r M→r.length≤(1099511627776:Nat)))∧((!d6 E R M)=true→((1:Int)=bif d6 E R M then(2:Int) else(1:Int))∧b.length=c∧b.length=c∧b.length=c)∧((!d6 E R M)=false→(a=true→((2:Int)=bif d6 E R M then(2:Int) else(1:Int))∧b.length=c∧b.length=c∧b.length=c)∧(a=false→False))):=by kernel_rfl
theorem v22a (E:List Ev) (R:List Int) (M:List (List Int)) (n:Int) (h:SzG E M∧(E.length:Int) < n):d36 E R M n:=by
 rw[d21]
 simp only[eq_self,true_and,and_true,z0p,imp_self,m5,n5,o0,g8,i9,PLoop.of,s5,AV.len,j5,z0v,j8,l5,l6,m6,m7,m8]
 refine⟨⟨h.1.1,h.1.2⟩,fun hv=>?_,fun hv=>⟨fun _=>?_,fun hc=>?_⟩⟩
 ·simp only[z0x] at hv
  rw[hv]; exact⟨rfl,rfl,rfl,rfl⟩
 ·simp only[Bool.not_eq_false'] at hv
  rw[hv]; exact⟨rfl,rfl,rfl,rfl⟩
 ·have:=h.2
  simp at hc
  omega
theorem n22a (nm:List (Option AV)):CallOk Tryz.prog GL 22 (n8 EL gbT nm [PG,.lf .i] c84):=a4r Tryz.func22 fo22 fun av pre rv h=>by
 unfold c84 at h; split at h <;> cases h
 exact⟨⟨rfl,fun t a e=>by cases e <;> exact z0k _ _⟩,fun hp=>⟨_,v22a _ _ _ _ (hp _ (.head _)),rfl,(m9 (n33 _) v4),v5⟩⟩
def c0e:List Int:=[-2,-2,1,3]
def exV (l:List Pq):List Pq:=o9 (d6 exE exR exM) l
def a8c:List Pq:=exV (b9 exE.length (poG exE exR exM))
def b2u:List Pq:=exV (b9 exE.length (rfG exE exR exM))
def a8d:List Pq:=exV (b9 exE.length (w9 exE exR exM))
def b2t:List Pq:=exV (b9 exE.length (i6 exE exR exM))
def a6l:List Pq:=exV (a3v exE.length (poG exE exR exM) (f9 exE exR exM) (w9 exE exR exM))
def b1c:List Pq:=exV (a3v exE.length (rfG exE exR exM) (i7 exE exR exM) (i6 exE exR exM))
def b1d:List (Option AV):=[none,some (.es exE),some (.is exR),some (.rs exM),none,some (.ps a8c),none,some (.ps b2u),none,some (.ps a8d),none,some (.ps b2t),none,some (.ps a6l),none,some (.ps b1c),none,some (.es exE),some (.is c0e),some (.rs exM)]
def d40:SpG:=fun | []=>some ([],plB true) | _=>none
def kAwk (nm:List (Option AV)):Nat × (List MBlk→List SV→Option AR):=(10,n8 EL gbT nm [] d40)
def kHas (nm:List (Option AV)):Nat × (List MBlk→List SV→Option AR):=(46,a1g EL nm [.r,.i,.i] c80)
def a6t:Bool:=(bif d6 exE exR exM then(0:Int) else 1) == 0 && (bif d6 exE exR exM then(0:Int) else 1) == 0 && (bif d6 exE exR exM then(0:Int) else 1) == 0 && (bif d6 exE exR exM then(0:Int) else 1) == 0 && (bif d6 exE exR exM then(0:Int) else 1) == 0 && (bif d6 exE exR exM then(0:Int) else 1) == 0 && (bif d6 exE c0e exM then(0:Int) else 1) == 1 && (bif d6 exE exR exM then(2:Int) else 1) == 2
def exN:Int:=bif d6 exE exR exM then exE.length else 0
def b6f:Bool:=a6t && d6 exE exR exM && a57 exN a8c 4 (mkN (fun j=>(e8 [0,2] j,e8 [1,3] j)) 2) && a57 exN b2u 4 (mkN (fun j=>(e8 [1] j,e8 [2] j)) 1)
def c0f:Bool:=b6f && a57 exN a8d 4 (mkN (fun j=>(e8 [1] j,e8 [2] j)) 1) && a57 exN b2t 4 (mkN (fun j=>(e8 [3] j,e8 [0] j)) 1)
def a29:Bool:=c0f && (d9 exN a6l && e9 a6l 0 3) && (d9 exN b1c && e9 b1c 3 0)
theorem d6g:(a29 && a30 exE exR exM exE exR exM == 0 && a30 exE c0e exM exE exR exM == -1)=true:=by kernel_rfl
theorem exSz:SzG exE exM:=⟨z1q (by kernel_rfl:Nat.ble exE.length 1099511627776=true),fun _ r hr=>by
 have:r∈exM:=hr
 simp only[exM,z0s,List.not_mem_nil,or_false] at this
 rcases this with rfl | rfl <;> decide⟩
theorem fo10:o8 Tryz.prog 10:=⟨Tryz.f10,Tryz.func10,by kernel_rfl,by kernel_rfl⟩
def q10D :Prop:=n9 (({ g:=true,calls:=[kExa [],c0n 25 (a4h poG) b1d,c0n 27 (a4h rfG) b1d,c0n 13 (a4h w9) b1d,c0n 11 (a4h i6) b1d,c0n 15 (b0m poG f9 w9) b1d,c0n 17 (b0m rfG i7 i6) b1d,c0n 29 (a4h i7) b1d,d7s b1d,a49 b1d,kPrs b1d,kHas b1d,d7q b1d] }:Kit)).tab Tryz.f10 [] [tbl] (l8 (.b true))
theorem d4y :q10D =(
 let a:=a29 && a30 exE exR exM exE exR exM ==(0:Int)
 let b:=(1099511627776:Nat)
 let c:=l9 [] (l9 [] (l9 [] (l9 [] (l9 [] (l9 [] (l9 [] (l9 [] (l9 [] tbl))))))))
 let d:=(0:Int)
 let e:=c0f && (d9 exN a6l && e9 a6l d (3:Int))
 let f:=l9 [] (l9 [] (l9 [] tbl))
 let g:=d6 exE exR exM
 let h:=(↑exE.length:Int)
 let i:=a6t && d6 exE exR exM
 let k:=(8:Nat)
 let l:=(3:Int)
 let m:=l9 [] (l9 [] (l9 [] c))
 let n:=(1:Nat)
 let o:=(4:Int)
 let p:=(2:Int)
 let q:=(1:Int)
 let s:=(a29)=true→exE.length=exE.length
 let t:=(a29)=true→exR.length=exR.length
 let u:=(a29)=true→exM.length=exM.length
 let v:=a=true→exE.length=exE.length
 let w:=a=true→exR.length=exR.length
 let y:=a=true→exM.length=exM.length
 let z:=(2:Nat)
 some (l9 [] tbl)=some tbl∧exE.length=exE.length∧exR.length=exR.length∧exM.length=exM.length∧nE exE∧nI exR∧nR exM∧(exE.length≤b∧(exM.length≤k→∀(r:List Int),List.Mem r exM→r.length≤b))∧o9 g (b9 h (poG exE exR exM))=a8c∧some (l9 [] (l9 [] tbl))=some tbl∧exE.length=exE.length∧exR.length=exR.length∧exM.length=exM.length∧nE exE∧nI exR∧nR exM∧(exE.length≤b∧(exM.length≤k→∀(r:List Int),List.Mem r exM→r.length≤b))∧o9 g (b9 h (rfG exE exR exM))=b2u∧some f=some tbl∧exE.length=exE.length∧exR.length=exR.length∧exM.length=exM.length∧nE exE∧nI exR∧nR exM∧(exE.length≤b∧(exM.length≤k→∀(r:List Int),List.Mem r exM→r.length≤b))∧o9 g (b9 h (w9 exE exR exM))=a8d∧some (l9 [] f)=some tbl∧exE.length=exE.length∧exR.length=exR.length∧exM.length=exM.length∧nE exE∧nI exR∧nR exM∧(exE.length≤b∧(exM.length≤k→∀(r:List Int),List.Mem r exM→r.length≤b))∧o9 g (b9 h (i6 exE exR exM))=b2t∧some (l9 [] (l9 [] f))=some tbl∧exE.length=exE.length∧exR.length=exR.length∧exM.length=exM.length∧nE exE∧nI exR∧nR exM∧(exE.length≤b∧(exM.length≤k→∀(r:List Int),List.Mem r exM→r.length≤b))∧o9 g (a3v exE.length (poG exE exR exM) (f9 exE exR exM) (w9 exE exR exM))=a6l∧some (l9 [] (l9 [] (l9 [] f)))=some tbl∧exE.length=exE.length∧exR.length=exR.length∧exM.length=exM.length∧nE exE∧nI exR∧nR exM∧(exE.length≤b∧(exM.length≤k→∀(r:List Int),List.Mem r exM→r.length≤b))∧o9 g (a3v exE.length (rfG exE exR exM) (i7 exE exR exM) (i6 exE exR exM))=b1c∧(d≤l∧l < (↑exR.length:Int))∧Int.toNat l < exR.length∧some c=some
 tbl∧exE.length=exE.length∧exR.length=exR.length∧exM.length=exM.length∧nE exE∧mkN (fun(j:Nat)=>bif j.beq (Int.toNat l) then l else b8 d exR j) exR.length=c0e∧nR exM∧(exE.length≤b∧(exM.length≤k→∀(r:List Int),List.Mem r exM→r.length≤b))∧some (l9 [] c)=some tbl∧exE.length=exE.length∧exR.length=exR.length∧exM.length=exM.length∧nE exE∧nI exR∧nR exM∧((exE.length≤b∧(exM.length≤k→∀(r:List Int),List.Mem r exM→r.length≤b))∧h < (5:Int))∧((a6t)=true→some m=some tbl)∧((a6t)=true→exE.length=exE.length)∧((a6t)=true→exR.length=exR.length)∧((a6t)=true→exM.length=exM.length)∧((a6t)=true→nE exE)∧((a6t)=true→nI exR)∧((a6t)=true→nR exM)∧((a6t)=true→exE.length≤b∧(exM.length≤k→∀(r:List Int),List.Mem r exM→r.length≤b))∧(i=true→(AV.ps a8c).len=(AV.ps a8c).len)∧(i=true→mkN (fun(j:Nat)=>((b8 (d,d) a8c j).fst,(b8 (d,d) a8c j).snd)) (AV.ps a8c).len=a8c)∧(i=true→z=z)∧(i=true→a8c.length≤b)∧((a6t && d6 exE exR exM && a57 exN a8c o (mkN (fun(j:Nat)=>(e8 [d,p] j,e8 [q,l] j)) z))=true→(AV.ps b2u).len=(AV.ps b2u).len)∧((a6t && d6 exE exR exM && a57 exN a8c o (mkN (fun(j:Nat)=>(e8 [d,p] j,e8 [q,l] j)) z))=true→mkN (fun(j:Nat)=>((b8 (d,d) b2u j).fst,(b8 (d,d) b2u j).snd)) (AV.ps b2u).len=b2u)∧((a6t && d6 exE exR exM && a57 exN a8c o (mkN (fun(j:Nat)=>(e8 [d,p] j,e8 [q,l] j)) z))=true→n=n)∧((a6t && d6 exE exR exM && a57 exN a8c o (mkN (fun(j:Nat)=>(e8 [d,p] j,e8 [q,l] j)) z))=true→b2u.length≤b)∧((b6f)=true→(AV.ps a8d).len=(AV.ps a8d).len)∧((b6f)=true→mkN (fun(j:Nat)=>((b8 (d,d) a8d j).fst,(b8 (d,d) a8d j).snd))
 (AV.ps a8d).len=a8d)∧((b6f)=true→n=n)∧((b6f)=true→a8d.length≤b)∧((b6f && a57 exN a8d o (mkN (fun(j:Nat)=>(e8 [q] j,e8 [p] j)) n))=true→(AV.ps b2t).len=(AV.ps b2t).len)∧((b6f && a57 exN a8d o (mkN (fun(j:Nat)=>(e8 [q] j,e8 [p] j)) n))=true→mkN (fun(j:Nat)=>((b8 (d,d) b2t j).fst,(b8 (d,d) b2t j).snd)) (AV.ps b2t).len=b2t)∧((b6f && a57 exN a8d o (mkN (fun(j:Nat)=>(e8 [q] j,e8 [p] j)) n))=true→n=n)∧((b6f && a57 exN a8d o (mkN (fun(j:Nat)=>(e8 [q] j,e8 [p] j)) n))=true→b2t.length≤b)∧((c0f)=true→(AV.ps a6l).len=(AV.ps a6l).len)∧((c0f)=true→mkN (fun(j:Nat)=>((b8 (d,d) a6l j).fst,(b8 (d,d) a6l j).snd)) (AV.ps a6l).len=a6l)∧((c0f)=true→a6l.length≤b)∧(e=true→(AV.ps b1c).len=(AV.ps b1c).len)∧(e=true→mkN (fun(j:Nat)=>((b8 (d,d) b1c j).fst,(b8 (d,d) b1c j).snd)) (AV.ps b1c).len=b1c)∧(e=true→b1c.length≤b)∧((a29)=true→some m=some tbl)∧s∧t∧u∧((a29)=true→nE exE)∧((a29)=true→nI exR)∧((a29)=true→nR exM)∧s∧t∧u∧((a29)=true→nE exE)∧((a29)=true→nI exR)∧((a29)=true→nR exM)∧((a29)=true→exE.length≤b∧(exM.length≤k→∀(r:List Int),List.Mem r exM→r.length≤b))∧((a29)=true→exE.length≤b∧(exM.length≤k→∀(r:List Int),List.Mem r exM→r.length≤b))∧(a=true→some m=some tbl)∧v∧w∧y∧(a=true→nE exE)∧(a=true→mkN (fun(j:Nat)=>bif j.beq (Int.toNat l) then l else b8 d exR j) exR.length=c0e)∧(a=true→nR exM)∧v∧w∧y∧(a=true→nE exE)∧(a=true→nI exR)∧(a=true→nR exM)∧(a=true→exE.length≤b∧(exM.length≤k→∀(r:List Int),List.Mem r exM→r.length≤b))∧(a=true→exE.length≤b∧(exM.length≤k→∀(r:List Int),List.Mem r exM→r.length≤b))∧(a29 && a30
 exE exR exM exE exR exM ==d && a30 exE c0e exM exE exR exM ==(-1:Int))=true):=by kernel_rfl
theorem v10  :q10D :=by
 rw[d4y]
 simp only[eq_self,true_and,and_true,z0p,imp_self,m5,n5,o0,g8,i9,PLoop.of,s5,AV.len,j5,z0v,j8,l5,l6,m6,m7,m8]
 have hS:=exSz
 have hS:exE.length≤1099511627776∧(exM.length≤8→∀ r:List Int,List.Mem r exM→r.length≤1099511627776):=⟨hS.1,hS.2⟩
 have hR:mkN (fun j=>bif j.beq (Int.toNat 3) then 3 else b8 0 exR j) exR.length=c0e:=by kernel_rfl
 exact⟨hS,rfl,hS,rfl,hS,rfl,hS,rfl,hS,rfl,hS,rfl,⟨by decide,by decide⟩,by decide,hR,hS,⟨hS,by decide⟩,fun _=>hS,fun _=>z1q (by kernel_rfl:Nat.ble a8c.length 1099511627776=true),fun _=>z1q (by kernel_rfl:Nat.ble b2u.length 1099511627776=true),fun _=>z1q (by kernel_rfl:Nat.ble a8d.length 1099511627776=true),fun _=>z1q (by kernel_rfl:Nat.ble b2t.length 1099511627776=true),fun _=>z1q (by kernel_rfl:Nat.ble a6l.length 1099511627776=true),fun _=>z1q (by kernel_rfl:Nat.ble b1c.length 1099511627776=true),fun _=>hS,fun _=>hS,fun _=>hR,fun _=>hS,fun _=>hS,d6g⟩
theorem n10 (nm:List (Option AV)):CallOk Tryz.prog GL 10 (n8 EL gbT nm [] d40):=a4r Tryz.func10 fo10 fun av pre rv h=>by
 unfold d40 at h; split at h <;> cases h
 exact⟨⟨rfl,fun t a e=>by cases e <;> exact z0k _ _⟩,fun hp=>⟨_,v10 ,rfl,(m9 (a0y (n44 _)) (m9 (n25 _) (m9 (n27 _) (m9 (n13 _) (m9 (n11 _) (m9 (n15 _) (m9 (n17 _) (m9 (n29 _) (m9 (n22a _) (m9 (n33 _) (m9 (a0y (n45 _)) (m9 (a0y (n46 _)) (m9 (n42 _) v4))))))))))))),v5⟩⟩
open Go Go.Proofs.YtaeeaniofljmnaaGreatDoor.Sx Go.ChangeShapes Go.WideShapes Go.ChangeAt Go.RowKit
theorem c67:laidOutB Tryz.prog=true:=by kernel_rfl
theorem c9x:ownKnob Tryz.prog.godebug=none:=by kernel_rfl
def a6p (w:World) (a:Addr):Int:=match w.cell? a with
 | some (.int _ n)=>n
 | _=>0
theorem c5n {w:World} {a:Addr} {u:Value} {k:IntKind} (h:w.cell? a=some u) (hk:b7v (some k) u):w.cell? a=some (.int k (a6p w a)):=by
 obtain⟨n,rfl,_⟩:=hk
 simp only[a6p,h]
def b68 (W:World) (E:Nat→Option (Option Addr × Nat)):Env:=⟨E,fun g=>g < W.heap.size,fun g=>g < W.heap.size,fun _ _=>False⟩
section
variable {H:Type} {enc:TypeId × Value→H} {P:Program} {w:World} {base:Nat} {sp:Nat→Bool} {held:Bool}
theorem c11 {f fuel:Nat} {t e:TypeId} {v:Value} {x:DataW H × List MemPlace} {ks:List (Option IntKind)} (ht:P.underlying t=some (.slice e)) (hk:a33 P f e=some ks) (hl:ks.length=P.cellsOf e) (h0:0 < ks.length) (hf:DataW.trod enc P w base sp held fuel t [v]=some x) :
  ∃ A n c,(n=0∨∃ es sp,x.1=.slice es sp∧es.length=n)∧v=.slice A n c∧n≤c∧(0 < n→∃ a,A=some a∧a.block < w.heap.size∧∀ j,j < n→∀(k:Nat) (kd:Option IntKind),ks[k]?=some kd→∃ u,w.cell? (a.add (j * ks.length + k))=some u∧b7v kd u):=by
 rcases DataW.trod_slice ht hf with⟨hz,_⟩ | ⟨a,len,cap,elems,rest,m,_,hz,rfl,_,hle,hmx,hel,hat,_⟩
 ·simp only[z3j,and_true] at hz
  exact⟨none,0,0,.inl rfl,hz,z0q _,fun h=>absurd h (z1k _)⟩
 ·simp only[z3j,and_true] at hz
  refine⟨some a,len,cap,.inr ⟨_,_,rfl,by rw[List.length_map]; exact hel⟩,hz,hle,fun hn=>?_⟩
  have hcell:∀ j,j < len→∀(k:Nat) (kd:Option IntKind),ks[k]?=some kd→∃ u,w.cell? (a.add (j * ks.length + k))=some u∧b7v kd u:=fun j hj k kd hkk=>by
   have h1:=hat j hj
   rw[z0i (by omega)] at h1
   rw[z3b] at h1
   obtain⟨cs,hcs1,hcs2⟩:=h1
   obtain⟨h2,_⟩:=b8a f m e cs _ _ ks hk (show DataW.trod enc P w base sp held m e cs=some (elems[j].1,elems[j].2) from hcs2)
   obtain⟨u,hu,hku⟩:=c08 h2 k kd hkk
   have hkl:=(z0c.1 hkk).1
   have:=c07 hcs1 k (by omega)
   rw[w6,hu,← hl] at this
   exact⟨u,this,hku⟩
  refine⟨a,rfl,?_,hcell⟩
  obtain⟨u,hu,_⟩:=hcell 0 hn 0 _ (z0i h0)
  have:=World.block_lt_of_cell? w _ hu
  rw[Sx.block_add] at this
  exact this
end
section
variable {H:Type} {enc:TypeId × Value→H} {w:World} {base:Nat} {sp:Nat→Bool} {held:Bool}
theorem k85:a33 Tryz.prog 5 85=some [some .i64,some .i64,some .i64,some .i64,some .i64,some .i64,some .i64,some .i64,some .i64]:=by kernel_rfl
def evAt (w:World) (a:Addr) (j:Nat):Ev:=⟨a6p w (a.add (j * 9 + 0)),a6p w (a.add (j * 9 + 1)),a6p w (a.add (j * 9 + 2)),a6p w (a.add (j * 9 + 3)),a6p w (a.add (j * 9 + 4)),a6p w (a.add (j * 9 + 5)),a6p w (a.add (j * 9 + 6)),a6p w (a.add (j * 9 + 7)),a6p w (a.add (j * 9 + 8))⟩
theorem c6x {fuel:Nat} {v:Value} {x:DataW H × List MemPlace} (hf:DataW.trod enc Tryz.prog w base sp held fuel 22 [v]=some x) (hw:∀ n∈x.1.weights Tryz.prog 22,n≤reachBytes) :
  ∃(l:List Ev) (y:Option Addr × Nat),l.length≤17592186044416∧∀(E:Nat→Option (Option Addr × Nat)) (i:Nat),E i=some y→BR (b68 w E) w i (.arr l.length (g9 l))∧Den (b68 w E) (.sl i l.length) v:=by
 obtain⟨A,n,c,hwt,rfl,hnc,hc⟩:=c11 (f:=5) (t:=22) (e:=85) (by kernel_rfl) k85 (by kernel_rfl) (by simp) hf
 have hn:n≤17592186044416:=by
  rcases hwt with h | ⟨es,sp,h1,h2⟩
  ·omega
  ·have hs:Tryz.prog.underlying 22=some (.slice 85):=by kernel_rfl
   have hb:Tryz.prog.bytesOf 85=72:=by kernel_rfl
   have:=hw ((es.length + sp.length) * Tryz.prog.bytesOf 85) (by rw[h1]; simp[DataW.weights,hs])
   rw[hb] at this
   have hr:=reachBytes_lt
   omega
 cases A with
 | none =>
  have h0:n=0:=by
   cases n with
   | zero=>rfl
   | succ n=>obtain⟨a,ha,_⟩:=hc (Nat.succ_pos n); cases ha
  subst h0
  exact⟨[],(none,c),by simp,fun E i hE=>⟨⟨none,c,hE,hnc,fun h=>absurd h (z1k _)⟩,.sl hE (fun h=>absurd h (z1k _))⟩⟩
 | some a =>
  refine⟨mkN (evAt w a) n,(some a,c),by rw[i9]; exact hn,fun E i hE=>⟨⟨some a,c,hE,by rw[i9]; exact hnc,fun hn=>?_⟩,by rw[i9]; exact .sl hE (fun _=>by simp)⟩⟩
  rw[i9] at hn
  obtain⟨a',ha,hlt,hcell⟩:=hc hn
  simp only[z0a] at ha
  subst ha
  refine⟨a,rfl,hlt,fun j hj k col hcol=>?_⟩
  rw[i9] at hj
  have hkk:=(z0c.1 hcol).1
  have h9:k < 9:=hkk
  have hk9:([some .i64,some .i64,some .i64,some .i64,some .i64,some .i64,some .i64,some .i64,some .i64]:List (Option IntKind))[k]?=some (some .i64):=by
   match k,h9 with
   | 0,_ | 1,_ | 2,_ | 3,_ | 4,_ | 5,_ | 6,_ | 7,_ | 8,_=>rfl
  obtain⟨u,hu,hk⟩:=hcell j hj k (some .i64) hk9
  refine⟨_,c5n hu hk,?_⟩
  match k,h9,hcol with
  | 0,_,hcol | 1,_,hcol | 2,_,hcol | 3,_,hcol | 4,_,hcol | 5,_,hcol | 6,_,hcol | 7,_,hcol | 8,_,hcol =>
   simp only[g9,z3c,z1t,z0a] at hcol
   subst hcol
   simp only[j4,v9 _ _ hj]
   rfl
end
theorem gTab:Tryz.prog.globalNamed "modelcheck/event.rows"=some 0:=by kernel_rfl
theorem c5w:(Tryz.prog.globals[0]?).map (·.type)=some 161:=by kernel_rfl
theorem c72:a35 Tryz.prog 5 161=true:=by kernel_rfl
def d0w:List Col:=[.int .i64 (e8 a07),.bool (o7 a1p),.int .i64 (e8 a26),.int .i64 (e8 a06),.bool (o7 x4),.int .i64 (e8 x0),.int .i64 (e8 a2v),.bool (o7 a03)]
theorem c8m:b7m (b1i 5 (Rows.laid_modelcheck_event_rows:DataW Unit)) 8 d0w 17=true:=by kernel_rfl
theorem c9o {W:World} {e:Nat→Option (Option Addr × Nat)} (he:e 0=some (some ⟨0,0,none⟩,17)) (h:laidMetH Tryz.prog [("modelcheck/event.rows",Rows.laid_modelcheck_event_rows)] W):BR (b68 W e) W 0 tbl:=by
 have h0:laidMet Tryz.prog [("modelcheck/event.rows",Rows.laid_modelcheck_event_rows)] W:=h
 have hv:=c3w gTab c5w c72 h0
 have hc:∀ i,W.cell? ⟨0,i,none⟩=(b1i 5 (Rows.laid_modelcheck_event_rows:DataW Unit))[i]?:=fun i=>by
  have:=World.var?_cell gTab hv i
  simpa using this
 refine⟨some ⟨0,0,none⟩,17,he,z0q _,fun _=>⟨⟨0,0,none⟩,rfl,?_,fun j hj k col hk=>?_⟩⟩
 ·obtain⟨v,hv',_⟩:=b46 c8m 0 (by omega) 0 _ rfl
  have:=hc (0 * 8 + 0)
  rw[hv'] at this
  exact World.block_lt_of_cell? W _ this
 ·obtain⟨v,hv',hd⟩:=b46 c8m j hj k col hk
  refine⟨v,?_,hd _ _⟩
  have:=hc (j * 8 + k)
  rw[hv'] at this
  simpa [Addr.add_lit] using this
theorem c9p {W:World} {fid:FuncId} {fn:Func} {K:Kit} {m0:List MBlk} {vs:List SV} {xs:List Value} {e:Nat→Option (Option Addr × Nat)} (hT:TabOk Tryz.prog K.tab) (hK:K.g=true) (hf:Tryz.prog.funcs[fid]?=some fn)
  (he0:e 0=some (some ⟨0,0,none⟩,17)) (hE:∀ i,e i≠none→i < m0.length) (hok:a0f m0=true) (hbr:∀ i k,m0[i]?=some k→e i≠none→BR (b68 W e) W i k) (hd:DenL (b68 W e) vs xs) (hv:n9 K.tab fn vs m0 (l8 .tt)) :
  Calls Tryz.prog fid xs.toArray W fun x W'=>x=.returned (.bool true)∧Below W.heap.size W W':=by
 refine Calls.mono (a94 (B:=⟨fun g=>g < W.heap.size,fun g=>g < W.heap.size⟩) (w0:=W) (ρ:=b68 W e) hT hf hv ⟨fun g hg=>hg,fun g hg=>.inl hg.2,fun g hg=>hg,.refl _ _,hbr,hE,fun _ _ h=>h.elim,fun _ _ _ h=>h.elim,fun _ _ _ _ _ _ h=>h.elim,fun r s k l a b c d hk _ ho=>?_⟩ ⟨fun g i hgi=>?_,fun p hp=>?_⟩ hd) fun x W' ⟨v,ρ',m',sv,hx,hdv,hm,hp,_⟩=>⟨?_,hm.below.below⟩
 ·rw[(b0a hok hk).2] at ho; cases ho
 ·have:g7 GL g=some i:=by simpa [Kit.tab,Kit.gl,hK] using hgi
  have h1:g=0∧i=0:=by
   have:=w5 this
   simpa [GL] using this
  obtain⟨rfl,rfl⟩:=h1
  exact⟨17,he0⟩
 ·cases hp
 ·rw[hx,(a3l _ _ _ hp hdv).tt_inv]
noncomputable def b00 (os:Os):World:=
 { World.holding Tryz.prog os ⟨#[],#[],[]⟩ with heap:=(World.holding Tryz.prog os ⟨#[],#[],[]⟩).heap.modify 0 fun
   | .cells _ t frozen=>.cells (b1i 5 (Rows.laid_modelcheck_event_rows:DataW Unit)).toArray t frozen
   | o=>o }
theorem c68 (os:Os) (args:Array Value):laidMet Tryz.prog [("modelcheck/event.rows",Rows.laid_modelcheck_event_rows)] ((b00 os).forCall (fun _ _=>0) ⟨#[],args,[]⟩).memory:=
 laidMet_of_run' 8 (by kernel_rfl) (by kernel_rfl)
def d3f (a b:Ev):Bool:=a.ag == b.ag && (a.ix == b.ix && (a.k == b.k && (a.ob == b.ob && (a.mu == b.mu && (a.en == b.en && (a.od == b.od && (a.rd == b.rd && a.wr == b.wr)))))))
def b2r (l m:List Ev) (i:Int):Bool:=d3f (evA l i) (evA m i)
def smE (l m:List Ev):Bool:=!((l.length:Int) != (m.length:Int)) && p7 (b2r l m) l.length
def d4g:SpP:=fun | [.lf (.es l),.lf (.es m)]=>some ([L40 l.length],plB (smE l m)) | _=>none
def kSmE (nm:List (Option AV)):Nat × (List MBlk→List SV→Option AR):=(73,n8 EL none nm [.lf .es,.lf .es] d4g)
def kInt (nm:List (Option AV)):Nat × (List MBlk→List SV→Option AR):=(74,n8 EL none nm [.lf .is,.lf .is] c4y)
def b2s (M M':List (List Int)) (x:Int):Bool:=!(u6 j9 (x5 M x) (x5 M' x) != 0)
def eqG (E:List Ev) (R:List Int) (M:List (List Int)) (E':List Ev) (R':List Int) (M':List (List Int)):Bool:=!((!smE E E' || u6 j9 R R' != 0) || (M.length:Int) != (M'.length:Int)) && p7 (b2s M M') M.length
def pcQ (E:List Ev) (R:List Int) (M:List (List Int)):Prop:=(L40 E.length∧L40 R.length∧L40 M.length)∧SzR M
def d49:SpP:=fun
 | [.ag [.es E,.is R,.rs M],.ag [.es E',.is R',.rs M']]=>some ([pcQ E R M],plB (eqG E R M E' R' M'))
 | _=>none
def kEqu (nm:List (Option AV)):Nat × (List MBlk→List SV→Option AR):=(24,n8 EL none nm [PG,PG] d49)
def nmG2 (E:List Ev) (R:List Int) (M:List (List Int)) (E':List Ev) (R':List Int) (M':List (List Int)):List (Option AV):=[some (.es E),some (.is R),some (.rs M),some (.es E'),some (.is R'),some (.rs M')]
end Go.Proofs.YtaeeaniofljmnaaGreatDoor

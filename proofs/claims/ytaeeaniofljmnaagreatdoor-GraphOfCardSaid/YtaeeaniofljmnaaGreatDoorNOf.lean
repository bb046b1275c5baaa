/-
  A part of the proof (NOf).
-/
import Derived.Test.YtaeeaniofljmnaaGreatDoorN55a
import Derived.Test.YtaeeaniofljmnaaGreatDoorN27a
namespace Go.Proofs.YtaeeaniofljmnaaGreatDoor
set_option linter.unusedSimpArgs false
set_option linter.unusedVariables false
open Go Go.Proofs.YtaeeaniofljmnaaGreatDoor.Sx
set_option maxRecDepth 100000
theorem fo73:o8 Tryz.prog 73:=⟨Tryz.f73,Tryz.func73,by kernel_rfl,by kernel_rfl⟩
def q73D (l m:List Ev):Prop:=n9 (({ loops:=[(0,.of (lAl (b2r l m) l.length 5))] }:Kit)).tab Tryz.f73 [.sl 0 l.length,.sl 1 m.length] [.arr l.length (g9 l),.arr m.length (g9 m)] (l8 (.b (smE l m)))
theorem d5u (l m:List Ev):q73D l m=(
 let a:=(↑l.length:Int)
 let b:=(↑m.length:Int)
 let c:=PLoop.of (lAl (b2r l m) l.length (5:Nat))
 ((a !=b)=true→false=smE l m)∧((a !=b)=false→∃(x:PUnit),(∃(x:Nat),(x≤l.length∧p7 (b2r l m) x=true)∧((0:Int)=(↑x:Int)∧True)∧True)∧∀(x_1:Nat),x_1≤l.length∧p7 (b2r l m) x_1=true→(decide ((↑x_1:Int) < a)=true→((0:Int)≤(↑x_1:Int)∧(↑x_1:Int) < a)∧x_1 < l.length∧((0:Int)≤(↑x_1:Int)∧(↑x_1:Int) < b)∧x_1 < m.length∧((!((b8 e0 l x_1).ag ==(b8 e0 m x_1).ag && ((b8 e0 l x_1).ix ==(b8 e0 m x_1).ix && ((b8 e0 l x_1).k ==(b8 e0 m x_1).k && ((b8 e0 l x_1).ob ==(b8 e0 m x_1).ob && ((b8 e0 l x_1).mu ==(b8 e0 m x_1).mu && ((b8 e0 l x_1).en ==(b8 e0 m x_1).en && ((b8 e0 l x_1).od ==(b8 e0 m x_1).od && ((b8 e0 l x_1).rd ==(b8 e0 m x_1).rd && (b8 e0 l x_1).wr ==(b8 e0 m x_1).wr)))))))))=true→false=smE l m)∧((!((b8 e0 l x_1).ag ==(b8 e0 m x_1).ag && ((b8 e0 l x_1).ix ==(b8 e0 m x_1).ix && ((b8 e0 l x_1).k ==(b8 e0 m x_1).k && ((b8 e0 l x_1).ob ==(b8 e0 m x_1).ob && ((b8 e0 l x_1).mu ==(b8 e0 m x_1).mu && ((b8 e0 l x_1).en ==(b8 e0 m x_1).en && ((b8 e0 l x_1).od ==(b8 e0 m x_1).od && ((b8 e0 l x_1).rd ==(b8 e0 m x_1).rd && (b8 e0 l x_1).wr ==(b8 e0 m x_1).wr)))))))))=false→∃(x_2:Nat),(x_2≤l.length∧p7 (b2r l m) x_2=true)∧(c.ann x).mu x_2 < (c.ann x).mu x_1∧(l.length=l.length∧m.length=m.length∧IntKind.i64.wrap ((↑x_1:Int) + (1:Int))=(↑x_2:Int)∧l.length=l.length∧a=a∧m.length=m.length∧b=b∧false=false∧True)∧eqA l.length (g9 l)∧eqA m.length (g9 m)∧True))∧(decide ((↑x_1:Int) < a)=false→true=smE l m))):=by kernel_rfl
theorem v73 (l m:List Ev) (h:L40 l.length):q73D l m:=by
 rw[d5u]
 simp only[eq_self,true_and,and_true,z0p,imp_self,m5,n5,o0,g8,i9,PLoop.of,s5,AV.len,j5,z0v,j8,l5,l6,m6,m7,m8,lAl]
 have h:l.length≤1099511627776:=h
 refine⟨fun hc=>by simp[smE,hc],fun hc=>⟨(),⟨0,⟨by omega,rfl⟩,rfl⟩,fun j hj=>⟨fun hlj=>?_,fun hlj=>?_⟩⟩⟩
 ·have hj2:j < l.length:=by have:=z0e hlj; omega
  have hlen:(l.length:Int)=m.length:=by simpa using hc
  refine⟨⟨by omega,by omega⟩,hj2,⟨by omega,by omega⟩,by omega,fun hd=>?_,fun hd=>⟨j + 1,⟨by omega,?_⟩,by omega,wrS (n:=l.length) hj2 h⟩⟩
  ·rw[z0x] at hd
   rw[smE,a1e (f:=b2r l m) hj2 hd,Bool.and_false]
  ·rw[Bool.not_eq_false'] at hd
   show(p7 (b2r l m) j && b2r l m j)=true
   rw[hj.2]; exact hd
 ·have hj2:j=l.length:=by have:=z0l hlj; omega
  subst hj2
  simp only[smE,hc,hj.2]
  rfl
theorem n73 (nm:List (Option AV)):CallOk Tryz.prog [] 73 (n8 EL none nm [.lf .es,.lf .es] d4g):=y5 Tryz.func73 fo73 fun av pre rv h=>by
 unfold d4g at h; split at h <;> cases h
 exact⟨⟨rfl,fun t a e=>by cases e <;> exact z0k _ _⟩,fun hp=>⟨_,v73 _ _ (hp _ (.head _)),rfl,v4,v5⟩⟩
theorem c9c {a b:Int} (h:a < b):j9 a b = -1:=by unfold j9; simp[h]
theorem c9b {a b:Int} (h:b < a):j9 a b=1:=by
 have:¬ a < b:=by omega
 unfold j9; simp[h,this]
theorem c21 {a b:Int} (h:¬ a < b) (h':¬ b < a):j9 a b=0:=by unfold j9; simp[h,h']
theorem fo74:o8 Tryz.prog 74:=⟨Tryz.f74,Tryz.func74,by kernel_rfl,by kernel_rfl⟩
def q74D (l m:List Int):Prop:=n9 (({ loops:=[(0,.of (b1e j9 0 l m 5))] }:Kit)).tab Tryz.f74 [.sl 0 l.length,.sl 1 m.length] [.arr l.length (j6 l),.arr m.length (j6 m)] (l8 (.i .i64 (u6 j9 l m)))
theorem d5v (l m:List Int):q74D l m=(
 let a:=(0:Int)
 let b:=(↑l.length:Int)
 let c:=(↑m.length:Int)
 let d:=PLoop.of (b1e j9 a l m (5:Nat))
 ∃(x:PUnit),(∃(x:Nat),(x≤l.length∧x≤m.length∧∀(q:Nat),q < x→j9 (b8 a l q) (b8 a m q)=a)∧(a=(↑x:Int)∧True)∧True)∧∀(x_1:Nat),(x_1≤l.length∧x_1≤m.length∧∀(q:Nat),q < x_1→j9 (b8 a l q) (b8 a m q)=a)→((decide ((↑x_1:Int) < b) && decide ((↑x_1:Int) < c))=true→(a≤(↑x_1:Int)∧(↑x_1:Int) < b)∧x_1 < l.length∧(a≤(↑x_1:Int)∧(↑x_1:Int) < c)∧x_1 < m.length∧(decide (b8 a l x_1 < b8 a m x_1)=true→(-1:Int)=u6 j9 l m)∧(decide (b8 a l x_1 < b8 a m x_1)=false→(a≤(↑x_1:Int)∧(↑x_1:Int) < b)∧x_1 < l.length∧(a≤(↑x_1:Int)∧(↑x_1:Int) < c)∧x_1 < m.length∧(decide (b8 a l x_1 > b8 a m x_1)=true→(1:Int)=u6 j9 l m)∧(decide (b8 a l x_1 > b8 a m x_1)=false→∃(x_2:Nat),(x_2≤l.length∧x_2≤m.length∧∀(q:Nat),q < x_2→j9 (b8 a l q) (b8 a m q)=a)∧(d.ann x).mu x_2 < (d.ann x).mu x_1∧(l.length=l.length∧m.length=m.length∧IntKind.i64.wrap ((↑x_1:Int) + (1:Int))=(↑x_2:Int)∧True)∧eqA l.length (j6 l)∧eqA m.length (j6 m)∧True)))∧((decide ((↑x_1:Int) < b) && decide ((↑x_1:Int) < c))=false→(decide (b < c)=true→(-1:Int)=u6 j9 l m)∧(decide (b < c)=false→(decide (b > c)=true→(1:Int)=u6 j9 l m)∧(decide (b > c)=false→a=u6 j9 l m)))):=by kernel_rfl
theorem v74 (l m:List Int) (h:L40 l.length):q74D l m:=by
 rw[d5v]
 simp only[eq_self,true_and,and_true,z0p,imp_self,m5,n5,o0,g8,i9,PLoop.of,s5,AV.len,j5,z0v,j8,l5,l6,m6,m7,m8,b1e]
 have h:l.length≤1099511627776:=h
 refine⟨(),⟨0,⟨by omega,by omega,fun q hq=>by omega⟩,rfl⟩,fun j hj=>⟨fun hlj=>?_,fun hlj=>?_⟩⟩
 ·simp only[z0d,z1p] at hlj
  have h1:j < l.length:=by omega
  have h2:j < m.length:=by omega
  refine⟨⟨by omega,by omega⟩,h1,⟨by omega,by omega⟩,h2,fun hd=>?_,fun hd=>⟨⟨by omega,by omega⟩,h1,⟨by omega,by omega⟩,h2,fun he=>?_,fun he=>⟨j + 1,⟨by omega,by omega,fun q hq=>?_⟩,by omega,wrS (n:=l.length) h1 h⟩⟩⟩
  ·have e:=c9c (z0e hd)
   rw[a8u (d:=0) hj.2.2 h1 h2 (by rw[e]; decide),e]
  ·have e:=c9b (z0e he)
   rw[a8u (d:=0) hj.2.2 h1 h2 (by rw[e]; decide),e]
  ·by_cases hq2:q=j
   ·subst hq2; exact c21 (z0l hd) (z0l he)
   ·exact hj.2.2 q (by omega)
 ·have hz:u6 j9 l m=bif decide (m.length < l.length) then 1 else bif decide (l.length < m.length) then -1 else 0:=a5c (d:=0) fun q h1 h2=>hj.2.2 q (by
   have:¬ (j < l.length∧j < m.length):=fun hc=>by
    have:(decide ((j:Int) < l.length) && decide ((j:Int) < m.length))=true:=by simp; omega
    rw[this] at hlj; cases hlj
   omega)
  rw[hz]
  refine⟨fun hd=>?_,fun hd=>⟨fun he=>?_,fun he=>?_⟩⟩
  ·have:=z0e hd
   rw[decide_eq_false (by omega),decide_eq_true (by omega)]; rfl
  ·have:=z0e he
   rw[decide_eq_true (by omega)]; rfl
  ·have:=z0l hd
   have:=z0l he
   rw[decide_eq_false (by omega),decide_eq_false (by omega)]; rfl
theorem n74 (nm:List (Option AV)):CallOk Tryz.prog [] 74 (n8 EL none nm [.lf .is,.lf .is] c4y):=y5 Tryz.func74 fo74 fun av pre rv h=>by
 unfold c4y at h; split at h <;> cases h
 exact⟨⟨rfl,fun t a e=>by cases e <;> exact z0k _ _⟩,fun hp=>⟨_,v74 _ _ (hp _ (.head _)),rfl,v4,v5⟩⟩
theorem fo24:o8 Tryz.prog 24:=⟨Tryz.f24,Tryz.func24,by kernel_rfl,by kernel_rfl⟩
def q24D (E:List Ev) (R:List Int) (M:List (List Int)) (E':List Ev) (R':List Int) (M':List (List Int)):Prop:=n9 (({ calls:=[kSmE (nmG2 E R M E' R' M'),kInt (nmG2 E R M E' R' M')],loops:=[(0,.of (lAl (b2s M M') M.length 5))] }:Kit)).tab Tryz.f24 [grV E R M,.agg [.sl 3 E'.length,.sl 4 R'.length,.sl 5 M'.length]] (grM E R M ++ [.arr E'.length (g9 E'),.arr R'.length (j6 R'),.arr M'.length (l4 M')]) (l8 (.b (eqG E R M E' R' M')))
theorem d54 (E:List Ev) (R:List Int) (M:List (List Int)) (E':List Ev) (R':List Int) (M':List (List Int)):q24D E R M E' R' M'=(
 let a:=!smE E E' || u6 j9 R R' !=(0:Int)
 let b:=!smE E E' || u6 j9 R R' !=(0:Int) || (↑M.length:Int) !=(↑M'.length:Int)
 let c:=E'.length=E'.length∧R'.length=R'.length∧M'.length=M'.length
 let d:=E.length=E.length∧R.length=R.length∧M.length=M.length
 let e:=!smE E E'
 let f:=(0:Int)
 let g:=PLoop.of (lAl (b2s M M') M.length (5:Nat))
 let h:=(1099511627776:Nat)
 let k:=(↑M.length:Int)
 E.length=E.length∧nE E∧E'.length=E'.length∧mkN (fun(j:Nat)=>b8 e0 E' j) E'.length=E'∧E.length≤h∧(e=false→R.length=R.length)∧(e=false→nI R)∧(e=false→R'.length=R'.length)∧(e=false→mkN (b8 f R') R'.length=R')∧(e=false→R.length≤h)∧(b=true→false=eqG E R M E' R' M')∧(b=false→∃(x:PUnit),(∃(x:Nat),(x≤M.length∧p7 (b2s M M') x=true)∧(f=(↑x:Int)∧True)∧True)∧∀(x_1:Nat),x_1≤M.length∧p7 (b2s M M') x_1=true→(decide ((↑x_1:Int) < k)=true→(f≤(↑x_1:Int)∧(↑x_1:Int) < k)∧x_1 < M.length∧(f≤(↑x_1:Int)∧(↑x_1:Int) < (↑M'.length:Int))∧x_1 < M'.length∧(b8 [] M x_1).length=(b8 [] M x_1).length∧(b8 [] M' x_1).length=(b8 [] M' x_1).length∧(mkN (fun(i:Nat)=>b8 f (b8 [] M x_1) i) (b8 [] M x_1).length).length≤h∧((u6 j9 (mkN (fun(i:Nat)=>b8 f (b8 [] M x_1) i) (b8 [] M x_1).length) (mkN (fun(i:Nat)=>b8 f (b8 [] M' x_1) i) (b8 [] M' x_1).length) !=f)=true→false=eqG E R M E' R' M')∧((u6 j9 (mkN (fun(i:Nat)=>b8 f (b8 [] M x_1) i) (b8 [] M x_1).length) (mkN (fun(i:Nat)=>b8 f (b8 [] M' x_1) i) (b8 [] M' x_1).length) !=f)=false→∃(x_2:Nat),(x_2≤M.length∧p7 (b2s M M') x_2=true)∧(g.ann x).mu x_2 < (g.ann x).mu x_1∧(d∧c∧True∧True∧IntKind.i64.wrap ((↑x_1:Int) + (1:Int))=(↑x_2:Int)∧True∧E.length=E.length∧True∧E'.length=E'.length∧smE E E'=smE E E'∧e =!smE E E'∧e =!smE E E'∧a=a∧a=a∧false=false∧True)∧eqA E.length (g9 E)∧eqA R.length (j6 R)∧eqA M.length (l4 M)∧eqA E'.length (g9 E')∧eqA R'.length (j6 R')∧eqA M'.length (l4 M')∧d∧c∧True))∧(decide ((↑x_1:Int) < k)=false→true=eqG E R M E' R' M'))):=by kernel_rfl
theorem v24 (E:List Ev) (R:List Int) (M:List (List Int)) (E':List Ev) (R':List Int) (M':List (List Int)) (h:pcQ E R M):q24D E R M E' R' M':=by
 rw[d54]
 obtain⟨⟨hE,hR,hM⟩,hS⟩:=h
 have hM:M.length≤1099511627776:=hM
 simp only[eq_self,true_and,and_true,z0p,imp_self,m5,n5,o0,g8,i9,PLoop.of,s5,AV.len,j5,z0v,j8,l5,l6,m6,m7,m8,lAl]
 refine⟨hE,fun _=>hR,fun hc=>by simp only[eqG,hc]; rfl,fun hc=>⟨(),⟨0,⟨by omega,rfl⟩,rfl⟩,fun j hj=>⟨fun hlj=>?_,fun hlj=>?_⟩⟩⟩
 ·have hj2:j < M.length:=by have:=z0e hlj; omega
  have hlen:(M.length:Int)=M'.length:=by
   simp only[z1o] at hc
   simpa using hc.2
  have hr:(b8 [] M j).length≤1099511627776:=hS _ (by rw[s9 [] M _ hj2]; exact z2r hj2)
  refine⟨⟨by omega,by omega⟩,hj2,⟨by omega,by omega⟩,by omega,hr,fun hd=>?_,fun hd=>⟨j + 1,⟨by omega,?_⟩,by omega,wrS (n:=M.length) hj2 hM⟩⟩
  ·rw[eqG,a1e (f:=b2s M M') hj2 (by show(!(u6 j9 (b8 [] M (j:Int).toNat) (b8 [] M' (j:Int).toNat) != 0))=false; rw[Int.toNat_natCast,hd]; rfl),Bool.and_false]
  ·show(p7 (b2s M M') j && (!(u6 j9 (b8 [] M (j:Int).toNat) (b8 [] M' (j:Int).toNat) != 0)))=true
   rw[hj.2,Int.toNat_natCast,hd]; rfl
 ·have hj2:j=M.length:=by have:=z0l hlj; omega
  subst hj2
  simp only[eqG,hc,hj.2]
  rfl
theorem n24 (nm:List (Option AV)):CallOk Tryz.prog [] 24 (n8 EL none nm [PG,PG] d49):=y5 Tryz.func24 fo24 fun av pre rv h=>by
 unfold d49 at h; split at h <;> cases h
 exact⟨⟨rfl,fun t a e=>by cases e <;> exact z0k _ _⟩,fun hp=>⟨_,v24 _ _ _ _ _ _ (hp _ (.head _)),rfl,(m9 (n73 _) (m9 (n74 _) v4)),v5⟩⟩
def d3g (n:Int) (r:List Int):Nat→List Int
 | 0=>[]
 | q + 1=>bif decide (b8 0 r q < n) then d3g n r q ++ [b8 0 r q] else d3g n r q
def fltR (n:Int) (r:List Int):List Int:=d3g n r r.length
def pfRs (n:Int) (R:List Int) (i:Int):Bool:=decide (inA R i < n)
def pfEr (E:List Ev) (R:List Int) (M:List (List Int)) (n:Int):Int:=bif !d6 E R M then 1 else bif decide (n < 0) || decide (n > E.length) then 2 else bif p7 (pfRs n R) n.toNat then 0 else 30
def pfK (E:List Ev) (R:List Int) (M:List (List Int)) (n:Int):Bool:=pfEr E R M n == 0
def pfV (E:List Ev) (R:List Int) (M:List (List Int)) (n:Int):QV:=.gr (some (pfEr E R M n)) (i5 (pfK E R M n) (E.take n.toNat)) (i5 (pfK E R M n) (R.take n.toNat)) (i5 (pfK E R M n) (M.map (fltR n)))
def sPfx:SpG:=fun
 | [.ag [.es E,.is R,.rs M],.lf (.i n)]=>some ([SzG E M],pfV E R M n)
 | _=>none
def d42:SpP:=fun | [.lf (.es l)]=>some ([L40 l.length],.rv (.sl (fun k=>.sl 0 k) (.es l))) | _=>none
def kClE (nm:List (Option AV)):Nat × (List MBlk→List SV→Option AR):=(69,n8 EL none nm [.lf .es] d42)
theorem c8g {l:List Int} {x:Int}:∀ j,j < (l ++ [x]).length→(bif Nat.blt j l.length then b8 0 l j else e8 [x] (j - l.length))=b8 0 (l ++ [x]) j:=fun j hj=>by
 simp only[z1b,z2i] at hj
 cases h:Nat.blt j l.length
 ·obtain rfl:j=l.length:=by
   have:¬ j < l.length:=fun h'=>by rw[← z0u] at h'; rw[h] at h'; cases h'
   omega
  rw[z0m,a9e]; simp; rfl
 ·rw[z0f,a7m 0 (by rwa [z0u] at h)]
theorem fo69:o8 Tryz.prog 69:=⟨Tryz.f69,Tryz.func69,by kernel_rfl,by kernel_rfl⟩
def q69D (l:List Ev):Prop:=n9 (({ sure:=[1000002] }:Kit)).tab Tryz.f69 [.sl 0 l.length] [.arr l.length (g9 l)] ((QV.rv (.sl (fun k=>.sl 0 k) (.es l))).post EL)
theorem d5t (l:List Ev):q69D l=(
 let a:=AV.es l
 let b:=(0:Nat)
 (l.length=b→b=a.len∧(a.len=b∧a.len=b∧a.len=b∧a.len=b∧a.len=b∧a.len=b∧a.len=b∧a.len=b∧a.len=b∧True)∧b=a.len)∧b=b∧l.length=l.length∧(b + l.length) * (72:Nat)≤(140737488355328:Nat)∧b + l.length≤(9223372036854775807:Nat)∧b + l.length=a.len∧((∀(j:Nat),j < a.len→(b8 e0 l j).ag=(b8 e0 l j).ag)∧(∀(j:Nat),j < a.len→(b8 e0 l j).ix=(b8 e0 l j).ix)∧(∀(j:Nat),j < a.len→(b8 e0 l j).k=(b8 e0 l j).k)∧(∀(j:Nat),j < a.len→(b8 e0 l j).ob=(b8 e0 l j).ob)∧(∀(j:Nat),j < a.len→(b8 e0 l j).mu=(b8 e0 l j).mu)∧(∀(j:Nat),j < a.len→(b8 e0 l j).en=(b8 e0 l j).en)∧(∀(j:Nat),j < a.len→(b8 e0 l j).od=(b8 e0 l j).od)∧(∀(j:Nat),j < a.len→(b8 e0 l j).rd=(b8 e0 l j).rd)∧(∀(j:Nat),j < a.len→(b8 e0 l j).wr=(b8 e0 l j).wr)∧True)∧b + l.length=a.len):=by kernel_rfl
theorem v69 (l:List Ev) (h:L40 l.length):q69D l:=by
 rw[d5t]
 simp only[eq_self,true_and,and_true,z0p,imp_self,m5,n5,o0,g8,i9,PLoop.of,s5,AV.len,j5,z0v,j8,l5,l6,m6,m7,m8,z1d]
 have h:l.length≤1099511627776:=h
 exact⟨fun h0=>by simp only[h0,and_self],by omega,by omega⟩
theorem n69 (nm:List (Option AV)):CallOk Tryz.prog [] 69 (n8 EL none nm [.lf .es] d42):=y5 Tryz.func69 fo69 fun av pre rv h=>by
 unfold d42 at h; split at h <;> cases h
 exact⟨⟨rfl,fun t a e=>by cases e <;> exact z0k _ _⟩,fun hp=>⟨_,v69 _ (hp _ (.head _)),rfl,v4,v5⟩⟩
structure Kit2 extends Kit where
 cb:List (Nat × (List MBlk→List SV→Option BRes)):=[]
def Kit2.tab (k:Kit2):Tab:=⟨a6h,k.toKit.gl,k.calls,k.loops,k.cb,[],k.takes,k.sure,k.inl,none,false⟩
theorem Kit2.ok {k:Kit2} (h:∀ p∈k.calls,CallOk Tryz.prog k.toKit.gl p.1 p.2) (hi:∀ p∈k.inl,a1q p) (hb:∀ p∈k.cb,CallOkB Tryz.prog k.toKit.gl p.1 p.2):TabOk Tryz.prog k.tab:=⟨mixed,tys,ints,fun _ _ hf=>h _ (w5 hf),fun _ _ hf=>hb _ (w5 hf),fun _ _ hf=>hi _ (w5 hf),fun _ hf=>by cases hf⟩
theorem d2g {fid:FuncId} {fn:Func} {ks:List PK} {nm:List (Option AV)} {S:List PV→Option (List Prop × QV)} (hfn:Tryz.prog.funcs[fid]?=some fn) (hok:o8 Tryz.prog fid)
  (hv:∀ av pre rv,S av=some (pre,rv)→(rv.ok=true∧∀ t a,rv=.rv (.sl t a)→a.cols≠[])∧((∀ p∈pre,p)→∃ k:Kit2,n9 k.tab fn (a77 1 av) (tbl :: a1u 1 av) (rv.post EL)∧k.g=true∧(∀ p∈k.calls,CallOk Tryz.prog GL p.1 p.2)∧(∀ p∈k.inl,a1q p)∧∀ p∈k.cb,CallOkB Tryz.prog GL p.1 p.2)):CallOk Tryz.prog GL fid (n8 EL gbT nm ks S):=
 c0i hfn hok (fun g k h=>by cases h; exact⟨rfl,rfl,b5e⟩) (fun av pre rv h=>(hv av pre rv h).1) fun av pre rv h hp=>by
  obtain⟨k,h1,h2,h3,h4,h5⟩:=(hv av pre rv h).2 hp
  exact⟨k.tab,Kit2.ok (by rw[Kit.gl,h2]; exact h3) h4 (by rw[Kit.gl,h2]; exact h5),by simp[Kit2.tab,Kit.gl,h2,gbG,gbT,GL],rfl,h1⟩
theorem d28 {G:List (Nat × Nat)} {f:Nat} {F:List MBlk→List SV→Option BRes} (h:CallOkB Tryz.prog G f F):∀ p∈[(f,F)],CallOkB Tryz.prog G p.1 p.2:=fun p hp=>by rcases z0r.1 hp with rfl; exact h
end Go.Proofs.YtaeeaniofljmnaaGreatDoor
namespace Go.Proofs.YtaeeaniofljmnaaGreatDoor.Sx
open Go Go.RowKit
section
variable {P:Program} {K:Lim} {w0 W:World} {ρ:Env} {m:List MBlk}
def frzAll:List Nat→List MBlk→List MBlk
 | [],m=>m
 | r :: l,m=>match nth m r with
  | some (.oarr _ n cols)=>frzAll l (i4 m r (.arr n cols))
  | some (.orows _ _ n none _ len gs)=>frzAll l (i4 m r (.arr n [.rows len gs]))
  | _=>frzAll l m
theorem MR.frzAll:∀ {l:List Nat} {m:List MBlk} {ρ:Env},MR K w0 W ρ m→∃ σ:Env,(∀ s y,ρ s=some y→σ s=some y)∧MR K w0 W σ (Sx.frzAll l m):=by
 intro l
 induction l with
 | nil=>intro m ρ hm; exact⟨ρ,fun _ _ h=>h,hm⟩
 | cons r l ih =>
  intro m ρ hm
  unfold Sx.frzAll
  split
  ·rename_i hr
   obtain⟨σ,h1,h2⟩:=hm.freezeArr (p9 hr)
   obtain⟨τ,h3,h4⟩:=ih h2
   exact⟨τ,fun s y hy=>h3 s y (h1 s y hy),h4⟩
  ·rename_i hr
   obtain⟨σ,h1,h2⟩:=hm.frz (p9 hr)
   obtain⟨τ,h3,h4⟩:=ih h2
   exact⟨τ,fun s y hy=>h3 s y (h1 s y hy),h4⟩
  ·exact ih hm
def d4i:List SV→List Nat
 | []=>[]
 | .sl r _ :: l=>r :: d4i l
 | _ :: l=>d4i l
def slsV:List SV→List Nat
 | .agg xs :: _=>d4i xs
 | _=>[]
def thaw (F:List MBlk→List SV→Option AR) (m:List MBlk) (vs:List SV):Option BRes:=
 match F (frzAll (slsV vs) m) vs with
 | some ⟨ps,sv,[]⟩=>bif sv.ltB 0 then some ⟨ps,sv,[],[],[]⟩ else none
 | _=>none
theorem CallOk.thaw {G:List (Nat × Nat)} {f:Nat} {F:List MBlk→List SV→Option AR} (h:CallOk P G f F):CallOkB P G f (thaw F):=⟨h.fn,fun K w0 ρ W m vs xs b hG hm hd hF hp=>by
 unfold Sx.thaw at hF
 split at hF
 ·rename_i ps sv har
  cases hs:sv.ltB 0
  ·rw[hs] at hF; cases hF
  ·rw[hs,z0f] at hF
   cases hF
   obtain⟨σ,hle,hm2⟩:=hm.frzAll (l:=slsV vs)
   refine Calls.mono (h.ok σ W _ vs xs _ (fun g r hg=>by obtain⟨c,hc⟩:=hG g r hg; exact⟨c,hle _ _ hc⟩) hm2.hS hm2.blk (fun r h1 h2=>absurd h2 (by simp only[z3a]; omega)) (hd.mono hle) har hp) fun e W' ⟨v,ev,h1,τ,h2,h3,h4,h5⟩=>⟨v,ev,ρ,fun _ _ _ h=>h,a2s hs h4,?_⟩
   have:=hm.grow (σ:=ρ) (new:=[]) h1 (fun _ _=>rfl) (.refl _ _ _) (.nil _ _ _ _)
   simp only[t4,t8,z1f] at this ⊢
   exact this
 ·cases hF⟩
end
end Go.Proofs.YtaeeaniofljmnaaGreatDoor.Sx
namespace Go.Proofs.YtaeeaniofljmnaaGreatDoor
open Go Go.Proofs.YtaeeaniofljmnaaGreatDoor.Sx
def rwE (e:Ev):Bool:=rdE e || wrE e
def wIx (E:List Ev) (o:Int):Nat→List Int
 | 0=>[]
 | j + 1=>bif y9 E o j then wIx E o j ++ [(j:Int)] else wIx E o j
def lwA (E:List Ev) (o:Int):Nat→Option Int
 | 0=>none
 | j + 1=>bif y9 E o j then some (j:Int) else lwA E o j
def rfO (E:List Ev) (j:Nat):Int:=bif rdE (evA E j) then(match lwA E (evA E j).ob j with | some x=>x | none=>-1) else -2
def ofN (E:List Ev):Nat→Nat
 | 0=>0
 | j + 1=>bif rwE (evA E j) then max (ofN E j) ((evA E j).ob.toNat + 1) else ofN E j
def ofR (E:List Ev):List Int:=mkN (rfO E) E.length
def ofM (E:List Ev):List (List Int):=mkN (fun o=>wIx E o E.length) (ofN E E.length)
def ofK (E:List Ev):Bool:=decide (E.length≤64) && d6 E (ofR E) (ofM E)
def a63 (E:List Ev):Int:=bif decide (E.length≤64) then(bif d6 E (ofR E) (ofM E) then 0 else 1) else 4
def ofV (E:List Ev):QV:=.gr (some (a63 E)) (i5 (ofK E) E) (i5 (ofK E) (ofR E)) (i5 (ofK E) (ofM E))
def b8s (E:List Ev) (j:Nat):Prop:=rwE (evA E j)=true→0≤(evA E j).ob∧(evA E j).ob < 8
def c6c (E:List Ev) (i n:Nat):MBlk:=.orows 23 3 n none none (fun o=>(wIx E o i).length) [fun o q=>b8 0 (wIx E o i) q]
def a3r (E:List Ev) (t c a b r:Nat):LAnn:=s5 E.length t (fun i=>∀ j,j < i→b8s E j) (fun i=>[(c,.cells [.sl a E.length,.sl b i,.sl r (ofN E i)]),(b,.oarr 3 i [.int .i64 (rfO E)]),(r,c6c E i (ofN E i))]) [b,r]
def a6m (E:List Ev) (t c a b p r:Nat):LAnn:=s5 E.length t (fun i=>∀ j,j < i→b8s E j) (fun i=>[(c,.cells [.sl a E.length,.sl b E.length,.sl r (ofN E i)]),(b,.oarr 3 E.length [.int .i64 (fun j=>bif Nat.blt j i then rfO E j else 0)]),(p,.mapi .i64 (some .i64) (fun x=>lwA E x i)),(r,c6c E i (ofN E i))]) [r]
def b8c (E:List Ev) (nb:Nat→Nat) (c a b r:Nat):PLoop:=⟨Nat,fun i=>{ X:=Nat,inv:=fun n=>i < E.length∧ofN E i≤n∧n≤ofN E (i + 1)∧n≤8,slots:=fun _=>[],mem:=fun n=>[(c,.cells [.sl a E.length,.sl b (nb i),.sl r n]),(r,c6c E i n)],mu:=fun n=>ofN E (i + 1) - n,kill:=[r] }⟩
def sOf:SpP:=fun | [.lf (.es l)]=>some ([L40 l.length],ofV l) | _=>none
def kOf1 (nm:List (Option AV)):Nat × (List MBlk→List SV→Option AR):=(35,n8 EL gbT nm [.lf .es] sOf)
def kOf2 (nm:List (Option AV)):Nat × (List MBlk→List SV→Option AR):=(36,n8 EL gbT nm [.lf .es] sOf)
def obAt (d:Nat) (sl:List Slot) (m:List MBlk):Option Nat:=match nth sl d with
 | some ⟨_,.ptr c 0⟩=>(match nth m c with
  | some (.cells (_ :: _ :: _ :: .i _ x :: _))=>some x.toNat
  | _=>none)
 | _=>none
def c6s (d r:Nat):List Slot→List MBlk→List Gh:=fun sl m=>match nth m r,obAt d sl m with
 | some (.orows _ _ _ none _ _ _),some x=>[.take r x]
 | _,_=>[]
def d3t (r:Nat):List Slot→List MBlk→List Gh:=fun _ m=>match nth m r with
 | some (.orows _ _ _ (some _) _ _ _)=>[.give r]
 | _=>[]
theorem a4v (E:List Ev) (o:Int):∀ i,(wIx E o i).length≤i:=by
 intro i
 induction i with
 | zero=>simp[wIx]
 | succ i ih =>
  rw[wIx]
  cases y9 E o i
  ·simp only[z0m]; omega
  ·simp only[z0f,z1b,z2i]; omega
theorem c4b {α:Type} (d:α) (l:List α) (x:α):b8 d (l ++ [x]) l.length=x:=by
 rw[s9 d _ _ (by simp)]
 simp
theorem d3m {E:List Ev} {o:Int}:∀ {i:Nat},0 < (wIx E o i).length→lwA E o i=some (b8 0 (wIx E o i) ((wIx E o i).length - 1)):=by
 intro i
 induction i with
 | zero=>intro h; simp[wIx] at h
 | succ i ih =>
  intro h
  rw[lwA]
  rw[wIx] at h ⊢
  cases hw:y9 E o i
  ·rw[hw] at h
   simp only[z0m] at h ⊢
   exact ih h
  ·simp only[z0f,z1b,z2i,Nat.add_sub_cancel]
   rw[c4b]
theorem c2f {E:List Ev} {o:Int}:∀ {i:Nat},(wIx E o i).length=0→lwA E o i=none:=by
 intro i
 induction i with
 | zero=>intro _; rfl
 | succ i ih =>
  intro h
  rw[lwA]
  rw[wIx] at h
  cases hw:y9 E o i
  ·rw[hw] at h
   simp only[z0m] at h ⊢
   exact ih h
  ·rw[hw] at h
   simp at h
theorem a9f (E:List Ev) (i:Nat):ofN E i≤ofN E (i + 1):=by
 rw[ofN]
 cases rwE (evA E i)
 ·simp
 ·simp only[z0f]; omega
theorem b74 {E:List Ev}:∀ {i j:Nat},j < i→rwE (evA E j)=true→(evA E j).ob.toNat < ofN E i:=by
 intro i
 induction i with
 | zero=>intro j h; omega
 | succ i ih =>
  intro j h hr
  have hm:=a9f E i
  by_cases e:j=i
  ·subst e
   rw[ofN,hr]
   simp only[z0f]
   omega
  ·have:=ih (show j < i by omega) hr
   omega
theorem b24 {E:List Ev} {o:Nat}:∀ {i:Nat},ofN E i≤o→wIx E o i=[]:=by
 intro i
 induction i with
 | zero=>intro _; rfl
 | succ i ih =>
  intro h
  have hm:=a9f E i
  rw[wIx]
  cases hw:y9 E o i
  ·simp only[z0m]
   exact ih (by omega)
  ·have h2:wrE (evA E i)=true∧(evA E i).ob=o:=by
    unfold y9 at hw
    simpa using hw
   have:=b74 (E:=E) (show i < i + 1 by omega) (by unfold rwE; rw[h2.1,Bool.or_true])
   omega
theorem c2j {E:List Ev}:∀ {i:Nat},(∀ j,j < i→b8s E j)→ofN E i≤8:=by
 intro i
 induction i with
 | zero=>intro _; simp[ofN]
 | succ i ih =>
  intro h
  have h1:=ih fun j hj=>h j (by omega)
  rw[ofN]
  cases hr:rwE (evA E i)
  ·simpa using h1
  ·have:=h i (by omega) hr
   simp only[z0f]
   omega
theorem c8s {e:Ev} (hv:n7 e=true) (hr:rwE e=true):0≤e.ob∧e.ob < 8:=by
 have ho:a17 e=true:=by
  unfold n7 at hv
  simp only[z0d] at hv
  grind
 have hk:e.k=1∨e.k=8∨e.k=5∨e.k=6∨e.k=2:=by
  unfold rwE rdE wrE a0a at hr
  simp only[z1r,beq_iff_eq] at hr
  omega
 unfold a17 at ho
 rcases hk with h | h | h | h | h <;> simp[h,t6] at ho <;> omega
theorem c0y {E:List Ev} {j:Nat} (hj:j < E.length) (h:n7 (b8 e0 E j)=false):ofK E=false:=by
 have:d6 E (ofR E) (ofM E)=false:=by
  have:a5y E (ofM E).length=false:=a1e hj (by unfold a6j; rw[show evA E (j:Int)=b8 e0 E j from rfl,h]; rfl)
  unfold d6
  rw[this]
  simp
 unfold ofK
 rw[this,Bool.and_false]
theorem c2k {E:List Ev} {j:Nat} (h6:E.length≤64) (hj:j < E.length) (h:n7 (b8 e0 E j)=false):1=a63 E:=by
 have:=c0y hj h
 unfold ofK at this
 rw[decide_eq_true h6,z1j] at this
 unfold a63
 rw[this,decide_eq_true h6]
 rfl
theorem c9v {E:List Ev} {j:Nat} (hj:j < E.length) (hr:rwE (b8 e0 E j)=true) (h:¬ (0≤(b8 e0 E j).ob∧(b8 e0 E j).ob < 8)):n7 (b8 e0 E j)=false:=by
 cases hv:n7 (b8 e0 E j)
 ·rfl
 ·exact absurd (c8s hv hr) h
theorem c6r (E:List Ev) {j:Nat} (h:j < E.length):b8 0 (ofR E) j=rfO E j:=v9 0 _ h
theorem b3i (E:List Ev) {o:Nat} (h:o < ofN E E.length):b8 [] (ofM E) o=wIx E o E.length:=v9 [] _ h
theorem a7n (E:List Ev):(ofR E).length=E.length:=i9 _ _
theorem a43 (E:List Ev):(ofM E).length=ofN E E.length:=i9 _ _
theorem c6v {E:List Ev} (h6:E.length≤64):SzG E (ofM E):=by
 refine⟨?_,fun _ r hr=>?_⟩
 ·show E.length≤1099511627776; omega
 ·obtain⟨o,ho,rfl⟩:=List.mem_iff_getElem.1 hr
  have h1:=b3i E (show o < ofN E E.length by rw[← a43]; exact ho)
  rw[s9 [] _ _ ho] at h1
  have h2:=a4v E o E.length
  show((ofM E)[o]).length≤1099511627776
  rw[h1]; omega
theorem c31 (E:List Ev) (o:Int) (i:Nat):y9 E o i=(wrE (b8 e0 E i) && (b8 e0 E i).ob == o):=rfl
theorem a37 {E:List Ev} {o:Int} {i:Nat} (hw:wrE (b8 e0 E i)=false):wIx E o (i + 1)=wIx E o i:=by
 rw[wIx,c31,hw]
 rfl
theorem c2e {E:List Ev} {o:Int} {i:Nat} (hw:wrE (b8 e0 E i)=false):lwA E o (i + 1)=lwA E o i:=by
 rw[lwA,c31,hw]
 rfl
theorem c6b {E:List Ev} {i:Nat} (hw:wrE (b8 e0 E i)=true) (x:Int):(bif x == (b8 e0 E i).ob then some (i:Int) else lwA E x i)=lwA E x (i + 1):=by
 rw[lwA,c31,hw,z1j,show((b8 e0 E i).ob == x)=(x == (b8 e0 E i).ob) from Bool.beq_comm ..]
theorem c8y {E:List Ev} {i:Nat} (hw:wrE (b8 e0 E i)=true) (h0:0≤(b8 e0 E i).ob) (j:Nat):wIx E j (i + 1)=bif Nat.beq j (b8 e0 E i).ob.toNat then wIx E j i ++ [(i:Int)] else wIx E j i:=by
 rw[wIx,c31,hw,z1j]
 cases hb:Nat.beq j (b8 e0 E i).ob.toNat
 ·have:((b8 e0 E i).ob == (j:Int))=false:=by
   rw[beq_eq_false_iff_ne]
   intro e
   have:j=(b8 e0 E i).ob.toNat:=by omega
   rw[← this,z2g] at hb
   cases hb
  rw[this]
 ·have:=z0b hb
  have:((b8 e0 E i).ob == (j:Int))=true:=by
   rw[beq_iff_eq]
   omega
  rw[this]
theorem b0l {E:List Ev} {i:Nat} (hw:wrE (b8 e0 E i)=true) (h0:0≤(b8 e0 E i).ob) (j:Nat):(bif Nat.beq j (b8 e0 E i).ob.toNat then(wIx E ((b8 e0 E i).ob.toNat:Int) i).length + 1 else(wIx E j i).length)=(wIx E j (i + 1)).length:=by
 rw[c8y hw h0]
 cases hb:Nat.beq j (b8 e0 E i).ob.toNat
 ·rfl
 ·rw[z0b hb]
  simp
theorem b0k {E:List Ev} {i:Nat} (hw:wrE (b8 e0 E i)=true) (h0:0≤(b8 e0 E i).ob) (j q:Nat) (hq:q < (wIx E j (i + 1)).length):(bif Nat.beq j (b8 e0 E i).ob.toNat then fun j=>bif Nat.blt j (wIx E ((b8 e0 E i).ob.toNat:Int) i).length then b8 0 (wIx E ((b8 e0 E i).ob.toNat:Int) i) j else e8 [(i:Int)] (j - (wIx E ((b8 e0 E i).ob.toNat:Int) i).length) else fun q=>b8 0 (wIx E j i) q) q=b8 0 (wIx E j (i + 1)) q:=by
 rw[c8y hw h0] at hq ⊢
 cases hb:Nat.beq j (b8 e0 E i).ob.toNat
 ·rfl
 ·rw[hb] at hq
  rw[z0b hb] at hq ⊢
  exact c8g q hq
theorem d37 {E:List Ev} {i o:Nat} (j q:Nat):(bif Nat.beq j o then fun q=>b8 0 (wIx E (o:Int) i) q else fun q=>b8 0 (wIx E j i) q) q=b8 0 (wIx E j i) q:=by
 cases hb:Nat.beq j o
 ·rfl
 ·rw[z0b hb]
  rfl
theorem c27 {E:List Ev} {i n:Nat} (hc:((rdE (b8 e0 E i) || wrE (b8 e0 E i)) && decide ((n:Int)≤(b8 e0 E i).ob))=true):n + 1≤ofN E (i + 1):=by
 simp only[z0d,z1p] at hc
 have hr:rwE (evA E i)=true:=hc.1
 have:=b74 (E:=E) (show i < i + 1 by omega) hr
 have e:evA E (i:Int)=b8 e0 E i:=rfl
 rw[e] at this
 omega
theorem b84 {E:List Ev} {i n:Nat} (h1:ofN E i≤n) (h2:n≤ofN E (i + 1)) (h0:rwE (b8 e0 E i)=true→0≤(b8 e0 E i).ob) (hc:((rdE (b8 e0 E i) || wrE (b8 e0 E i)) && decide ((n:Int)≤(b8 e0 E i).ob))=false):n=ofN E (i + 1):=by
 rw[ofN,show evA E (i:Int)=b8 e0 E i from rfl] at h2 ⊢
 cases hr:rwE (b8 e0 E i)
 ·rw[hr] at h2
  simp only[z0m] at h2 ⊢
  omega
 ·rw[hr] at h2
  have hr':(rdE (b8 e0 E i) || wrE (b8 e0 E i))=true:=hr
  rw[hr',z1j,z1m] at hc
  have:=h0 hr
  simp only[z0f] at h2 ⊢
  omega
theorem b3s {E:List Ev} {i:Nat} (hr:rdE (b8 e0 E i)=false):rfO E i = -2:=by
 rw[rfO,show evA E (i:Int)=b8 e0 E i from rfl,hr]
 rfl
theorem b99 {E:List Ev} {i:Nat} {x:Int} (hr:rdE (b8 e0 E i)=true) (h:lwA E (b8 e0 E i).ob i=some x):rfO E i=x:=by
 rw[rfO,show evA E (i:Int)=b8 e0 E i from rfl,hr,h]
 rfl
theorem b3t {E:List Ev} {i:Nat} (hr:rdE (b8 e0 E i)=true) (h:lwA E (b8 e0 E i).ob i=none):rfO E i = -1:=by
 rw[rfO,show evA E (i:Int)=b8 e0 E i from rfl,hr,h]
 rfl
theorem c6t {E:List Ev} (h:¬ E.length≤64):4=a63 E∧ofK E=false:=by
 unfold a63 ofK
 rw[decide_eq_false h]
 exact⟨rfl,rfl⟩
theorem b5k {E:List Ev} (h:ofK E=false):(i5 (ofK E) E).length=0∧(i5 (ofK E) (ofR E)).length=0∧(i5 (ofK E) (ofM E)).length=0:=by
 rw[h]
 exact⟨rfl,rfl,rfl⟩
theorem c6u {E:List Ev} (h6:E.length≤64) (h:d6 E (ofR E) (ofM E)=false):1=a63 E∧ofK E=false:=by
 unfold a63 ofK
 rw[decide_eq_true h6,h]
 exact⟨rfl,rfl⟩
theorem c6w {E:List Ev} (h6:E.length≤64) (h:d6 E (ofR E) (ofM E)=true):0=a63 E∧ofK E=true:=by
 unfold a63 ofK
 rw[decide_eq_true h6,h]
 exact⟨rfl,rfl⟩
theorem a5h {E:List Ev} {i n:Nat} {v:Int} {L:Nat→Nat} {F:Nat→Nat→Int} (hi:i < E.length) (h6:E.length≤64) (hob:∀ j:Nat,j < i + 1→b8s E j) (hn:n=ofN E (i + 1)) (hv:rfO E i=v) (hL:∀ j:Nat,L j=(wIx E j (i + 1)).length) (hF:∀ j q:Nat,q < (wIx E j (i + 1)).length→F j q=b8 0 (wIx E j (i + 1)) q) :
  ∃ x,(x≤E.length∧∀ j:Nat,j < x→rwE (evA E j)=true→0≤(evA E j).ob∧(evA E j).ob < 8)∧E.length - x < E.length - i∧IntKind.i64.wrap ((i:Int) + 1)=(x:Int)∧(i + 1=x∧n=ofN E x)∧(i + 1=x∧∀ j:Nat,j < x→(bif Nat.blt j i then rfO E j else e8 [v] (j - i))=rfO E j)∧n=ofN E x∧(∀ j:Nat,j < ofN E x→L j=(wIx E j x).length)∧∀ j:Nat,j < ofN E x→∀ q:Nat,q < (wIx E j x).length→F j q=b8 0 (wIx E j x) q:=by
 refine⟨i + 1,⟨by omega,fun j hj=>hob j hj⟩,by omega,wrS (n:=E.length) hi (by omega),⟨rfl,hn⟩,⟨rfl,fun j hj=>?_⟩,hn,fun j _=>hL j,fun j _ q hq=>hF j q hq⟩
 cases hb:Nat.blt j i
 ·obtain rfl:=a5u hb hj
  rw[z0m,Nat.sub_self,hv]
  rfl
 ·rfl
theorem a4e {E:List Ev} {i n:Nat} {G:Nat→Int} {D:Int→Option Int} {L:Nat→Nat} {F:Nat→Nat→Int} (hi:i < E.length) (h6:E.length≤64) (hob:∀ j:Nat,j < i + 1→b8s E j) (hn:n=ofN E (i + 1)) (hG:∀ j:Nat,G j=bif Nat.beq j i then rfO E i else bif Nat.blt j i then rfO E j else 0) (hD:∀ x,D x=lwA E x (i + 1)) (hL:∀ j:Nat,L j=(wIx E j (i + 1)).length) (hF:∀ j q:Nat,q < (wIx E j (i + 1)).length→F j q=b8 0 (wIx E j (i + 1)) q) :
  ∃ x,(x≤E.length∧∀ j:Nat,j < x→rwE (evA E j)=true→0≤(evA E j).ob∧(evA E j).ob < 8)∧E.length - x < E.length - i∧IntKind.i64.wrap ((i:Int) + 1)=(x:Int)∧(∀ j:Nat,j < E.length→G j=bif Nat.blt j x then rfO E j else 0)∧n=ofN E x∧(∀ z:Int,D z=lwA E z x)∧n=ofN E x∧(∀ j:Nat,j < ofN E x→L j=(wIx E j x).length)∧∀ j:Nat,j < ofN E x→∀ q:Nat,q < (wIx E j x).length→F j q=b8 0 (wIx E j x) q:=by
 refine⟨i + 1,⟨by omega,fun j hj=>hob j hj⟩,by omega,wrS (n:=E.length) hi (by omega),fun j hj=>?_,hn,hD,hn,fun j _=>hL j,fun j _ q hq=>hF j q hq⟩
 rw[hG]
 cases hb:Nat.beq j i
 ·have h1:j≠i:=fun e=>by rw[e,z2g] at hb; cases hb
  have h2:Nat.blt j (i + 1)=Nat.blt j i:=by
   cases h3:Nat.blt j i
   ·cases h4:Nat.blt j (i + 1)
    ·rfl
    ·rw[z0u] at h4
     have:¬ j < i:=fun h=>by rw[show Nat.blt j i=true by rw[z0u]; exact h] at h3; cases h3
     omega
   ·rw[z0u] at h3 ⊢
    omega
  rw[h2]
  rfl
 ·rw[z0b hb]
  have:Nat.blt i (i + 1)=true:=by rw[z0u]; omega
  rw[this]
  rfl
end Go.Proofs.YtaeeaniofljmnaaGreatDoor

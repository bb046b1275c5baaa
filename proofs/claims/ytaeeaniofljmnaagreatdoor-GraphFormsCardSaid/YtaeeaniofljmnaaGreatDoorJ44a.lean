/-
  A part of the proof (J44a).
-/
import Derived.Test.YtaeeaniofljmnaaGreatDoorJ40a
namespace Go.Proofs.YtaeeaniofljmnaaGreatDoor
set_option linter.unusedSimpArgs false
set_option linter.unusedVariables false
open Go Go.Proofs.YtaeeaniofljmnaaGreatDoor.Sx
set_option maxRecDepth 100000
theorem e03:p8 Tryz.prog 181:=⟨Tryz.f181,Tryz.func181,by kernel_rfl,by kernel_rfl⟩
def d4x (n:Int):Prop:=p7 (({}:Kit)).tab Tryz.f181 [.i .i64 n] [] (l4 (.b (a1t n)))
theorem d3j (n:Int):d4x n=((n != n)=a1t n):=by kernel_rfl
theorem v181 (n:Int) :d4x n:=by
 rw[d3j]
 first | simp[a1t] | (rw[a1t]; simp)
theorem n181 (nm:List (Option AV)):CallOk Tryz.prog [] 181 (o5 EL none nm [.lf .i] (sI1 a1t)):=x4 Tryz.func181 e03 fun av pre rv h=>by
 unfold sI1 at h; split at h <;> cases h
 exact⟨⟨rfl,fun t a e=>by cases e <;> exact z0h _ _⟩,fun hp=>⟨_,v181 _ ,rfl,t9,u4⟩⟩
theorem e04:p8 Tryz.prog 182:=⟨Tryz.f182,Tryz.func182,by kernel_rfl,by kernel_rfl⟩
def d4y (n:Int):Prop:=p7 (({}:Kit)).tab Tryz.f182 [.i .i64 n] [] (l4 (.b (a1t n)))
theorem d3k (n:Int):d4y n=((n != n)=a1t n):=by kernel_rfl
theorem v182 (n:Int) :d4y n:=by
 rw[d3k]
 first | simp[a1t] | (rw[a1t]; simp)
theorem n182 (nm:List (Option AV)):CallOk Tryz.prog [] 182 (o5 EL none nm [.lf .i] (sI1 a1t)):=x4 Tryz.func182 e04 fun av pre rv h=>by
 unfold sI1 at h; split at h <;> cases h
 exact⟨⟨rfl,fun t a e=>by cases e <;> exact z0h _ _⟩,fun hp=>⟨_,v182 _ ,rfl,t9,u4⟩⟩
theorem e05:p8 Tryz.prog 183:=⟨Tryz.f183,Tryz.func183,by kernel_rfl,by kernel_rfl⟩
def d4z (n:Int):Prop:=p7 (({}:Kit)).tab Tryz.f183 [.i .i64 n] [] (l4 (.b (a1t n)))
theorem d3l (n:Int):d4z n=((n != n)=a1t n):=by kernel_rfl
theorem v183 (n:Int) :d4z n:=by
 rw[d3l]
 first | simp[a1t] | (rw[a1t]; simp)
theorem n183 (nm:List (Option AV)):CallOk Tryz.prog [] 183 (o5 EL none nm [.lf .i] (sI1 a1t)):=x4 Tryz.func183 e05 fun av pre rv h=>by
 unfold sI1 at h; split at h <;> cases h
 exact⟨⟨rfl,fun t a e=>by cases e <;> exact z0h _ _⟩,fun hp=>⟨_,v183 _ ,rfl,t9,u4⟩⟩
theorem d9s:p8 Tryz.prog 141:=⟨Tryz.f141,Tryz.func141,by kernel_rfl,by kernel_rfl⟩
def d4r (a b:Int):Prop:=p7 (({ calls:=[kI1 181 a1t] }:Kit)).tab Tryz.f141 [.i .i64 a,.i .i64 b] [] (l4 (.i .i64 (m7 a b)))
theorem d39 (a b:Int):d4r a b=((a1t a=true→(a1t b=true→(0:Int)=m7 a b)∧(a1t b=false→(-1:Int)=m7 a b))∧(a1t a=false→(a1t b=true→(1:Int)=m7 a b)∧(a1t b=false→(decide (a < b)=true→(-1:Int)=m7 a b)∧(decide (a < b)=false→(decide (a > b)=true→(1:Int)=m7 a b)∧(decide (a > b)=false→(0:Int)=m7 a b))))):=by kernel_rfl
theorem v141 (a b:Int) :d4r a b:=by
 rw[d39]
 simp only[m7,a1t]; grind
theorem n141 (nm:List (Option AV)):CallOk Tryz.prog [] 141 (o5 EL none nm [.lf .i,.lf .i] c2q):=x4 Tryz.func141 d9s fun av pre rv h=>by
 unfold c2q at h; split at h <;> cases h
 exact⟨⟨rfl,fun t a e=>by cases e <;> exact z0h _ _⟩,fun hp=>⟨_,v141 _ _ ,rfl,(m9 (n181 _) t9),u4⟩⟩
theorem d9t:p8 Tryz.prog 142:=⟨Tryz.f142,Tryz.func142,by kernel_rfl,by kernel_rfl⟩
def d4s (a b:Int):Prop:=p7 (({ calls:=[kI1 182 a1t] }:Kit)).tab Tryz.f142 [.i .i64 a,.i .i64 b] [] (l4 (.i .i64 (m7 a b)))
theorem d3a (a b:Int):d4s a b=((a1t a=true→(a1t b=true→(0:Int)=m7 a b)∧(a1t b=false→(-1:Int)=m7 a b))∧(a1t a=false→(a1t b=true→(1:Int)=m7 a b)∧(a1t b=false→(decide (a < b)=true→(-1:Int)=m7 a b)∧(decide (a < b)=false→(decide (a > b)=true→(1:Int)=m7 a b)∧(decide (a > b)=false→(0:Int)=m7 a b))))):=by kernel_rfl
theorem v142 (a b:Int) :d4s a b:=by
 rw[d3a]
 simp only[m7,a1t]; grind
theorem n142 (nm:List (Option AV)):CallOk Tryz.prog [] 142 (o5 EL none nm [.lf .i,.lf .i] c2q):=x4 Tryz.func142 d9t fun av pre rv h=>by
 unfold c2q at h; split at h <;> cases h
 exact⟨⟨rfl,fun t a e=>by cases e <;> exact z0h _ _⟩,fun hp=>⟨_,v142 _ _ ,rfl,(m9 (n182 _) t9),u4⟩⟩
theorem d9u:p8 Tryz.prog 143:=⟨Tryz.f143,Tryz.func143,by kernel_rfl,by kernel_rfl⟩
def d4t (a b:Int):Prop:=p7 (({ calls:=[kI1 183 a1t] }:Kit)).tab Tryz.f143 [.i .i64 a,.i .i64 b] [] (l4 (.i .i64 (m7 a b)))
theorem d3b (a b:Int):d4t a b=((a1t a=true→(a1t b=true→(0:Int)=m7 a b)∧(a1t b=false→(-1:Int)=m7 a b))∧(a1t a=false→(a1t b=true→(1:Int)=m7 a b)∧(a1t b=false→(decide (a < b)=true→(-1:Int)=m7 a b)∧(decide (a < b)=false→(decide (a > b)=true→(1:Int)=m7 a b)∧(decide (a > b)=false→(0:Int)=m7 a b))))):=by kernel_rfl
theorem v143 (a b:Int) :d4t a b:=by
 rw[d3b]
 simp only[m7,a1t]; grind
theorem n143 (nm:List (Option AV)):CallOk Tryz.prog [] 143 (o5 EL none nm [.lf .i,.lf .i] c2q):=x4 Tryz.func143 d9u fun av pre rv h=>by
 unfold c2q at h; split at h <;> cases h
 exact⟨⟨rfl,fun t a e=>by cases e <;> exact z0h _ _⟩,fun hp=>⟨_,v143 _ _ ,rfl,(m9 (n183 _) t9),u4⟩⟩
theorem fo96:p8 Tryz.prog 96:=⟨Tryz.f96,Tryz.func96,by kernel_rfl,by kernel_rfl⟩
def q96D (l:List Int):Prop:=p7 (({ loops:=[(0,.of (lOr l 8))] }:Kit)).tab Tryz.f96 [.sl 0 l.length] [.arr l.length (f7 l)] (l4 (.i .i64 (orF l)))
theorem d8k (l:List Int):q96D l=(
 let a:=(0:Int)
 let b:=(↑l.length:Int)
 let c:=PLoop.of (lOr l (8:Nat))
 ∃(x:PUnit),(∃(x:Nat),(x≤l.length∧∀(q:Nat),q < x→b6 a l q=a)∧(a=(↑x:Int)∧True)∧True)∧∀(x_1:Nat),(x_1≤l.length∧∀(q:Nat),q < x_1→b6 a l q=a)→(decide ((↑x_1:Int) < b)=true→(a≤(↑x_1:Int)∧(↑x_1:Int) < b)∧x_1 < l.length∧((b6 a l x_1 !=a)=true→b6 a l x_1=orF l)∧((b6 a l x_1 !=a)=false→∃(x_2:Nat),(x_2≤l.length∧∀(q:Nat),q < x_2→b6 a l q=a)∧(c.ann x).mu x_2 < (c.ann x).mu x_1∧(l.length=l.length∧a=a∧l.length=l.length∧b=b∧IntKind.i64.wrap ((↑x_1:Int) + (1:Int))=(↑x_2:Int)∧True)∧eqA l.length (f7 l)∧True))∧(decide ((↑x_1:Int) < b)=false→a=orF l)):=by kernel_rfl
theorem v96 (l:List Int) (h:L40 l.length):q96D l:=by
 rw[d8k]
 simp only[eq_self,true_and,and_true,z0n,imp_self,l9,m6,n5,g7,g8,PLoop.of,q6,AV.len,g9,z0s,i9,j4,j5,l5,l6,l7,lOr]
 refine⟨(),⟨0,⟨by omega,fun q hq=>absurd hq (z2k _)⟩,rfl⟩,fun j hj=>⟨fun hlt=>?_,fun hlt=>?_⟩⟩
 ·have h1:j < l.length:=by have:=z0e hlt; omega
  refine⟨⟨by omega,by omega⟩,h1,fun he=>?_,fun he=>⟨j + 1,⟨by omega,fun q hq=>?_⟩,by omega,wrS (n:=l.length) h1 h⟩⟩
  ·exact(d1d hj.2 h1 (by simpa using he)).symm
  ·by_cases e:q=j
   ·subst e; simpa using he
   ·exact hj.2 q (by omega)
 ·have h1:j=l.length:=by have:=z0i hlt; omega
  subst h1
  exact(c81 hj.2).symm
theorem n96 (nm:List (Option AV)):CallOk Tryz.prog [] 96 (o5 EL none nm [.lf .is] sOr):=x4 Tryz.func96 fo96 fun av pre rv h=>by
 unfold sOr at h; split at h <;> cases h
 exact⟨⟨rfl,fun t a e=>by cases e <;> exact z0h _ _⟩,fun hp=>⟨_,v96 _ (hp _ (.head _)),rfl,t9,u4⟩⟩
theorem fo98:p8 Tryz.prog 98:=⟨Tryz.f98,Tryz.func98,by kernel_rfl,by kernel_rfl⟩
def q98D (a b:Ev):Prop:=p7 (({ calls:=[d0u 141,d0u 142,d0u 143,kOr (no 2 ++ [some (.is [m7 a.ag b.ag,m7 a.ix b.ix,m7 a.k b.k,m7 a.ob b.ob,m7 a.mu b.mu,m7 a.en b.en,m7 a.od b.od,m7 a.rd b.rd,m7 a.wr b.wr])])] }:Kit)).tab Tryz.f98 [a67 a,a67 b] [] (l4 (.i .i64 (a5q a b)))
theorem d8m (a b:Ev):q98D a b=((9:Nat)=(9:Nat)∧mkN (d9 [m7 a.ag b.ag,m7 a.ix b.ix,m7 a.k b.k,m7 a.ob b.ob,m7 a.mu b.mu,m7 a.en b.en,m7 a.od b.od,m7 a.rd b.rd,m7 a.wr b.wr]) (9:Nat)=[m7 a.ag b.ag,m7 a.ix b.ix,m7 a.k b.k,m7 a.ob b.ob,m7 a.mu b.mu,m7 a.en b.en,m7 a.od b.od,m7 a.rd b.rd,m7 a.wr b.wr]∧[m7 a.ag b.ag,m7 a.ix b.ix,m7 a.k b.k,m7 a.ob b.ob,m7 a.mu b.mu,m7 a.en b.en,m7 a.od b.od,m7 a.rd b.rd,m7 a.wr b.wr].length≤(1099511627776:Nat)∧orF [m7 a.ag b.ag,m7 a.ix b.ix,m7 a.k b.k,m7 a.ob b.ob,m7 a.mu b.mu,m7 a.en b.en,m7 a.od b.od,m7 a.rd b.rd,m7 a.wr b.wr]=a5q a b):=by kernel_rfl
theorem v98 (a b:Ev) :q98D a b:=by
 rw[d8m]
 simp only[eq_self,true_and,and_true,z0n,imp_self,l9,m6,n5,g7,g8,PLoop.of,q6,AV.len,g9,z0s,i9,j4,j5,l5,l6,l7]
 exact⟨rfl,by simp,rfl⟩
theorem n98 (nm:List (Option AV)):CallOk Tryz.prog [] 98 (o5 EL none nm [.lf .ev,.lf .ev] d65):=x4 Tryz.func98 fo98 fun av pre rv h=>by
 unfold d65 at h; split at h <;> cases h
 exact⟨⟨rfl,fun t a e=>by cases e <;> exact z0h _ _⟩,fun hp=>⟨_,v98 _ _ ,rfl,(m9 (n141 _) (m9 (n142 _) (m9 (n143 _) (m9 (n96 _) t9)))),u4⟩⟩
theorem fo99:p8 Tryz.prog 99:=⟨Tryz.f99,Tryz.func99,by kernel_rfl,by kernel_rfl⟩
def q99D (l m:List Int):Prop:=p7 (({ calls:=[d0u 141],loops:=[(0,.of (b25 m7 0 l m 11))] }:Kit)).tab Tryz.f99 [.sl 0 l.length,.sl 1 m.length] [.arr l.length (f7 l),.arr m.length (f7 m)] (l4 (.i .i64 (w7 m7 l m)))
theorem d8n (l m:List Int):q99D l m=(
 let a:=(0:Int)
 let b:=(↑l.length:Int)
 let c:=(↑m.length:Int)
 let d:=PLoop.of (b25 m7 a l m (11:Nat))
 ∃(x:PUnit),(∃(x:Nat),(x≤l.length∧x≤m.length∧∀(q:Nat),q < x→m7 (b6 a l q) (b6 a m q)=a)∧(a=(↑x:Int)∧True)∧True)∧∀(x_1:Nat),(x_1≤l.length∧x_1≤m.length∧∀(q:Nat),q < x_1→m7 (b6 a l q) (b6 a m q)=a)→(decide ((↑x_1:Int) < b)=true→(a≤(↑x_1:Int)∧(↑x_1:Int) < b)∧x_1 < l.length∧(decide ((↑x_1:Int) ≥ c)=true→(1:Int)=w7 m7 l m)∧(decide ((↑x_1:Int) ≥ c)=false→(a≤(↑x_1:Int)∧(↑x_1:Int) < c)∧x_1 < m.length∧((m7 (b6 a l x_1) (b6 a m x_1) !=a)=true→m7 (b6 a l x_1) (b6 a m x_1)=w7 m7 l m)∧((m7 (b6 a l x_1) (b6 a m x_1) !=a)=false→∃(x_2:Nat),(x_2≤l.length∧x_2≤m.length∧∀(q:Nat),q < x_2→m7 (b6 a l q) (b6 a m q)=a)∧(d.ann x).mu x_2 < (d.ann x).mu x_1∧(l.length=l.length∧m.length=m.length∧l.length=l.length∧b=b∧IntKind.i64.wrap ((↑x_1:Int) + (1:Int))=(↑x_2:Int)∧True)∧eqA l.length (f7 l)∧eqA m.length (f7 m)∧True)))∧(decide ((↑x_1:Int) < b)=false→(decide (b < c)=true→(-1:Int)=w7 m7 l m)∧(decide (b < c)=false→a=w7 m7 l m))):=by kernel_rfl
theorem v99 (l m:List Int) (h:L40 l.length):q99D l m:=by
 rw[d8n]
 simp only[eq_self,true_and,and_true,z0n,imp_self,l9,m6,n5,g7,g8,PLoop.of,q6,AV.len,g9,z0s,i9,j4,j5,l5,l6,l7,b25]
 refine⟨(),⟨0,⟨by omega,by omega,fun q hq=>absurd hq (z2k _)⟩,rfl⟩,fun j hj=>⟨fun hlt=>?_,fun hlt=>?_⟩⟩
 ·have h1:j < l.length:=by have:=z0e hlt; omega
  refine⟨⟨by omega,by omega⟩,h1,fun hm=>?_,fun hm=>?_⟩
  ·have h2:j=m.length:=by have:=z0e hm; omega
   subst h2
   rw[a65 (d:=(0:Int)) fun q _ h=>hj.2.2 q h]
   have:decide (m.length < l.length)=true:=by simp; omega
   rw[this]; rfl
  have h2:j < m.length:=by have:=z0i hm; omega
  refine⟨⟨by omega,by omega⟩,h2,fun he=>?_,fun he=>⟨j + 1,⟨by omega,by omega,fun q hq=>?_⟩,by omega,wrS (n:=l.length) h1 h⟩⟩
  ·exact(a9h (d:=(0:Int)) hj.2.2 h1 h2 (by simpa using he)).symm
  ·by_cases e:q=j
   ·subst e; simpa using he
   ·exact hj.2.2 q (by omega)
 ·have h1:j=l.length:=by have:=z0i hlt; omega
  subst h1
  rw[a65 (d:=(0:Int)) fun q h _=>hj.2.2 q h]
  have h3:decide (m.length < l.length)=false:=by have:=hj.2.1; simp; omega
  rw[h3,z0l]
  refine⟨fun h4=>?_,fun h4=>?_⟩
  ·have:decide (l.length < m.length)=true:=by have:=z0e h4; simp; omega
   rw[this]; rfl
  ·have:decide (l.length < m.length)=false:=by have:=z0i h4; simp; omega
   rw[this]; rfl
theorem n99 (nm:List (Option AV)):CallOk Tryz.prog [] 99 (o5 EL none nm [.lf .is,.lf .is] c66):=x4 Tryz.func99 fo99 fun av pre rv h=>by
 unfold c66 at h; split at h <;> cases h
 exact⟨⟨rfl,fun t a e=>by cases e <;> exact z0h _ _⟩,fun hp=>⟨_,v99 _ _ (hp _ (.head _)),rfl,(m9 (n141 _) t9),u4⟩⟩
theorem fo97:p8 Tryz.prog 97:=⟨Tryz.f97,Tryz.func97,by kernel_rfl,by kernel_rfl⟩
def q97D (l m:List Ev):Prop:=p7 (({ calls:=[kCmE],loops:=[(0,.of (b25 a5q e0 l m 13))] }:Kit)).tab Tryz.f97 [.sl 0 l.length,.sl 1 m.length,.fn 98 []] [.arr l.length (i6 l),.arr m.length (i6 m)] (l4 (.i .i64 (w7 a5q l m)))
theorem d8l (l m:List Ev):q97D l m=(
 let a:=(↑l.length:Int)
 let b:=(↑m.length:Int)
 let c:=(0:Int)
 let d:=PLoop.of (b25 a5q e0 l m (13:Nat))
 ∃(x:PUnit),(∃(x:Nat),(x≤l.length∧x≤m.length∧∀(q:Nat),q < x→a5q (b6 e0 l q) (b6 e0 m q)=c)∧(c=(↑x:Int)∧True)∧True)∧∀(x_1:Nat),(x_1≤l.length∧x_1≤m.length∧∀(q:Nat),q < x_1→a5q (b6 e0 l q) (b6 e0 m q)=c)→(decide ((↑x_1:Int) < a)=true→(c≤(↑x_1:Int)∧(↑x_1:Int) < a)∧x_1 < l.length∧(decide ((↑x_1:Int) ≥ b)=true→(1:Int)=w7 a5q l m)∧(decide ((↑x_1:Int) ≥ b)=false→(c≤(↑x_1:Int)∧(↑x_1:Int) < b)∧x_1 < m.length∧((a5q (b6 e0 l x_1) (b6 e0 m x_1) !=c)=true→a5q (b6 e0 l x_1) (b6 e0 m x_1)=w7 a5q l m)∧((a5q (b6 e0 l x_1) (b6 e0 m x_1) !=c)=false→∃(x_2:Nat),(x_2≤l.length∧x_2≤m.length∧∀(q:Nat),q < x_2→a5q (b6 e0 l q) (b6 e0 m q)=c)∧(d.ann x).mu x_2 < (d.ann x).mu x_1∧(l.length=l.length∧m.length=m.length∧True∧l.length=l.length∧a=a∧IntKind.i64.wrap ((↑x_1:Int) + (1:Int))=(↑x_2:Int)∧True)∧eqA l.length (i6 l)∧eqA m.length (i6 m)∧True)))∧(decide ((↑x_1:Int) < a)=false→(decide (a < b)=true→(-1:Int)=w7 a5q l m)∧(decide (a < b)=false→c=w7 a5q l m))):=by kernel_rfl
theorem v97 (l m:List Ev) (h:L40 l.length):q97D l m:=by
 rw[d8l]
 simp only[eq_self,true_and,and_true,z0n,imp_self,l9,m6,n5,g7,g8,PLoop.of,q6,AV.len,g9,z0s,i9,j4,j5,l5,l6,l7,b25]
 refine⟨(),⟨0,⟨by omega,by omega,fun q hq=>absurd hq (z2k _)⟩,rfl⟩,fun j hj=>⟨fun hlt=>?_,fun hlt=>?_⟩⟩
 ·have h1:j < l.length:=by have:=z0e hlt; omega
  refine⟨⟨by omega,by omega⟩,h1,fun hm=>?_,fun hm=>?_⟩
  ·have h2:j=m.length:=by have:=z0e hm; omega
   subst h2
   rw[a65 (d:=e0) fun q _ h=>hj.2.2 q h]
   have:decide (m.length < l.length)=true:=by simp; omega
   rw[this]; rfl
  have h2:j < m.length:=by have:=z0i hm; omega
  refine⟨⟨by omega,by omega⟩,h2,fun he=>?_,fun he=>⟨j + 1,⟨by omega,by omega,fun q hq=>?_⟩,by omega,wrS (n:=l.length) h1 h⟩⟩
  ·exact(a9h (d:=e0) hj.2.2 h1 h2 (by simpa using he)).symm
  ·by_cases e:q=j
   ·subst e; simpa using he
   ·exact hj.2.2 q (by omega)
 ·have h1:j=l.length:=by have:=z0i hlt; omega
  subst h1
  rw[a65 (d:=e0) fun q h _=>hj.2.2 q h]
  have h3:decide (m.length < l.length)=false:=by have:=hj.2.1; simp; omega
  rw[h3,z0l]
  refine⟨fun h4=>?_,fun h4=>?_⟩
  ·have:decide (l.length < m.length)=true:=by have:=z0e h4; simp; omega
   rw[this]; rfl
  ·have:decide (l.length < m.length)=false:=by have:=z0i h4; simp; omega
   rw[this]; rfl
theorem n97 (nm:List (Option AV)):CallOk Tryz.prog [] 97 (o5 EL none nm [.lf .es,.lf .es,.fc 98] d66):=x4 Tryz.func97 fo97 fun av pre rv h=>by
 unfold d66 at h; split at h <;> cases h
 exact⟨⟨rfl,fun t a e=>by cases e <;> exact z0h _ _⟩,fun hp=>⟨_,v97 _ _ (hp _ (.head _)),rfl,(m9 (n98 _) t9),u4⟩⟩
theorem nthD_out {α:Type} (d:α):∀ {l:List α} {j:Nat},l.length≤j→b6 d l j=d:=by
 intro l
 induction l with
 | nil=>intro j _; rfl
 | cons x r ih =>
  intro j h
  cases j with
  | zero=>simp at h
  | succ j=>exact ih (by simpa using h)
theorem fo92:p8 Tryz.prog 92:=⟨Tryz.f92,Tryz.func92,by kernel_rfl,by kernel_rfl⟩
def q92D (a b:List (List Int)):Prop:=p7 (({ calls:=[kCmL []],loops:=[(0,.of (b5o a b 14))] }:Kit)).tab Tryz.f92 [.sl 0 a.length,.sl 1 b.length] [.arr a.length (i4 a),.arr b.length (i4 b)] (l4 (.i .i64 (b3f a b)))
theorem d8h (a b:List (List Int)):q92D a b=(
 let c:=(if (↑b.length:Int) > (↑a.length:Int) then(↑b.length:Int) else(↑a.length:Int))=if (↑b.length:Int) > (↑a.length:Int) then(↑b.length:Int) else(↑a.length:Int)
 let d:=(↑b.length:Int)
 let e:=(↑a.length:Int)
 let f:=PLoop.of (b5o a b (14:Nat))
 let g:=(0:Int)
 let h:=(1099511627776:Nat)
 let j:=(0:Nat)
 ∃(x:PUnit),(∃(x:Nat),((x≤if b.length > a.length then b.length else a.length)∧a27 (fun(x:Nat)=>w7 m7 (q8 a x) (q8 b x)) x=g)∧(g=(↑x:Int)∧True)∧True)∧∀(x_1:Nat),(x_1≤if b.length > a.length then b.length else a.length)∧a27 (fun(x:Nat)=>w7 m7 (q8 a x) (q8 b x)) x_1=g→(decide ((↑x_1:Int) < if d > e then d else e)=true→(decide ((↑x_1:Int) < e)=true→(g≤(↑x_1:Int)∧(↑x_1:Int) < e)∧x_1 < a.length∧(decide ((↑x_1:Int) < d)=true→(g≤(↑x_1:Int)∧(↑x_1:Int) < d)∧x_1 < b.length∧(b6 [] a x_1).length=(b6 [] a x_1).length∧(b6 [] b x_1).length=(b6 [] b x_1).length∧(mkN (fun(i:Nat)=>b6 g (b6 [] a x_1) i) (b6 [] a x_1).length).length≤h∧((w7 m7 (mkN (fun(i:Nat)=>b6 g (b6 [] a x_1) i) (b6 [] a x_1).length) (mkN (fun(i:Nat)=>b6 g (b6 [] b x_1) i) (b6 [] b x_1).length) !=g)=true→w7 m7 (mkN (fun(i:Nat)=>b6 g (b6 [] a x_1) i) (b6 [] a x_1).length) (mkN (fun(i:Nat)=>b6 g (b6 [] b x_1) i) (b6 [] b x_1).length)=b3f a b)∧((w7 m7 (mkN (fun(i:Nat)=>b6 g (b6 [] a x_1) i) (b6 [] a x_1).length) (mkN (fun(i:Nat)=>b6 g (b6 [] b x_1) i) (b6 [] b x_1).length) !=g)=false→∃(x_2:Nat),((x_2≤if b.length > a.length then b.length else a.length)∧a27 (fun(x:Nat)=>w7 m7 (q8 a x) (q8 b x)) x_2=g)∧(f.ann x).mu x_2 < (f.ann x).mu x_1∧(a.length=a.length∧b.length=b.length∧a.length=a.length∧e=e∧b.length=b.length∧d=d∧c∧IntKind.i64.wrap ((↑x_1:Int) + (1:Int))=(↑x_2:Int)∧True)∧eqA a.length (i4 a)∧eqA b.length (i4 b)∧True))∧(decide ((↑x_1:Int) < d)=false→(b6 [] a x_1).length=(b6 [] a x_1).length∧j=j∧(mkN (fun(i:Nat)=>b6 g (b6 [] a x_1)
 i) (b6 [] a x_1).length).length≤h∧((w7 m7 (mkN (fun(i:Nat)=>b6 g (b6 [] a x_1) i) (b6 [] a x_1).length) [] !=g)=true→w7 m7 (mkN (fun(i:Nat)=>b6 g (b6 [] a x_1) i) (b6 [] a x_1).length) []=b3f a b)∧((w7 m7 (mkN (fun(i:Nat)=>b6 g (b6 [] a x_1) i) (b6 [] a x_1).length) [] !=g)=false→∃(x_2:Nat),((x_2≤if b.length > a.length then b.length else a.length)∧a27 (fun(x:Nat)=>w7 m7 (q8 a x) (q8 b x)) x_2=g)∧(f.ann x).mu x_2 < (f.ann x).mu x_1∧(a.length=a.length∧b.length=b.length∧a.length=a.length∧e=e∧b.length=b.length∧d=d∧c∧IntKind.i64.wrap ((↑x_1:Int) + (1:Int))=(↑x_2:Int)∧True)∧eqA a.length (i4 a)∧eqA b.length (i4 b)∧True)))∧(decide ((↑x_1:Int) < e)=false→(decide ((↑x_1:Int) < d)=true→(g≤(↑x_1:Int)∧(↑x_1:Int) < d)∧x_1 < b.length∧j=j∧(b6 [] b x_1).length=(b6 [] b x_1).length∧([]:List Pq).length≤h∧((w7 m7 [] (mkN (fun(i:Nat)=>b6 g (b6 [] b x_1) i) (b6 [] b x_1).length) !=g)=true→w7 m7 [] (mkN (fun(i:Nat)=>b6 g (b6 [] b x_1) i) (b6 [] b x_1).length)=b3f a b)∧((w7 m7 [] (mkN (fun(i:Nat)=>b6 g (b6 [] b x_1) i) (b6 [] b x_1).length) !=g)=false→∃(x_2:Nat),((x_2≤if b.length > a.length then b.length else a.length)∧a27 (fun(x:Nat)=>w7 m7 (q8 a x) (q8 b x)) x_2=g)∧(f.ann x).mu x_2 < (f.ann x).mu x_1∧(a.length=a.length∧b.length=b.length∧a.length=a.length∧e=e∧b.length=b.length∧d=d∧c∧IntKind.i64.wrap ((↑x_1:Int) + (1:Int))=(↑x_2:Int)∧True)∧eqA a.length (i4 a)∧eqA b.length (i4 b)∧True))∧(decide ((↑x_1:Int) < d)=false→j=j∧j=j∧([]:List Pq).length≤h∧((w7 m7 [] [] !=g)=true→w7 m7 [] []=b3f a b)∧((w7 m7
 [] [] !=g)=false→∃(x_2:Nat),((x_2≤if b.length > a.length then b.length else a.length)∧a27 (fun(x:Nat)=>w7 m7 (q8 a x) (q8 b x)) x_2=g)∧(f.ann x).mu x_2 < (f.ann x).mu x_1∧(a.length=a.length∧b.length=b.length∧a.length=a.length∧e=e∧b.length=b.length∧d=d∧c∧IntKind.i64.wrap ((↑x_1:Int) + (1:Int))=(↑x_2:Int)∧True)∧eqA a.length (i4 a)∧eqA b.length (i4 b)∧True))))∧(decide ((↑x_1:Int) < if d > e then d else e)=false→g=b3f a b)):=by kernel_rfl
theorem v92 (a b:List (List Int)) (h:(L40 a.length∧L40 b.length)∧SzR a):q92D a b:=by
 rw[d8h]
 obtain⟨⟨ha,hb⟩,hr⟩:=h
 have ha:a.length≤1099511627776:=ha
 have hb:b.length≤1099511627776:=hb
 have hra:∀ x,x < a.length→(b6 [] a x).length≤1099511627776:=fun o ho=>hr _ (by rw[o6 [] a _ ho]; exact z1r ho)
 simp only[eq_self,true_and,and_true,z0n,imp_self,l9,m6,n5,g7,g8,PLoop.of,q6,AV.len,g9,z0s,i9,j4,j5,l5,l6,l7,b5o]
 have hN:(if (b.length:Int) > (a.length:Int) then(b.length:Int) else(a.length:Int))=((if b.length > a.length then b.length else a.length:Nat):Int):=by
  split <;> split <;> omega
 have hN2:(if b.length > a.length then b.length else a.length)≤1099511627776:=by split <;> omega
 have hM:b3f a b=a27 (fun x=>w7 m7 (q8 a x) (q8 b x)) (if b.length > a.length then b.length else a.length):=rfl
 rw[hN,hM]
 generalize (if b.length > a.length then b.length else a.length)=N at *
 refine⟨(),⟨0,⟨by omega,rfl⟩,rfl⟩,fun j hj=>⟨fun hlt=>?_,fun hlt=>?_⟩⟩
 ·have h1:j < N:=by have:=z0e hlt; omega
  have yes:∀ {l m:List Int},q8 a j=l→q8 b j=m→(w7 m7 l m != 0)=true→w7 m7 l m=a27 (fun x=>w7 m7 (q8 a x) (q8 b x)) N:=fun {l m} e1 e2 hne=>by
   subst e1; subst e2
   exact(c75 (f:=fun x=>w7 m7 (q8 a x) (q8 b x)) hj.2 (by simpa using hne) h1).symm
  have no:∀ {l m:List Int},q8 a j=l→q8 b j=m→(w7 m7 l m != 0)=false→∃ x_2:Nat,(x_2≤N∧a27 (fun x=>w7 m7 (q8 a x) (q8 b x)) x_2=0)∧N - x_2 < N - j∧IntKind.i64.wrap ((j:Int) + 1)=(x_2:Int):=fun {l m} e1 e2 hne=>by
   subst e1; subst e2
   exact⟨j + 1,⟨by omega,c1m hj.2 (by simpa using hne)⟩,by omega,wrS (n:=N) h1 hN2⟩
  have oa:¬ j < a.length→q8 a j=[]:=fun h=>nthD_out _ (by omega)
  have ob:¬ j < b.length→q8 b j=[]:=fun h=>nthD_out _ (by omega)
  refine⟨fun h2=>?_,fun h2=>?_⟩
  ·have h2:j < a.length:=by have:=z0e h2; omega
   refine⟨⟨by omega,by omega⟩,h2,fun h3=>?_,fun h3=>?_⟩
   ·have h3:j < b.length:=by have:=z0e h3; omega
    exact⟨⟨by omega,by omega⟩,h3,hra j h2,yes rfl rfl,no rfl rfl⟩
   ·have h3:¬ j < b.length:=by have:=z0i h3; omega
    exact⟨hra j h2,yes rfl (ob h3),no rfl (ob h3)⟩
  ·have h2:¬ j < a.length:=by have:=z0i h2; omega
   refine⟨fun h3=>?_,fun h3=>?_⟩
   ·have h3:j < b.length:=by have:=z0e h3; omega
    exact⟨⟨by omega,by omega⟩,h3,by simp,yes (oa h2) rfl,no (oa h2) rfl⟩
   ·have h3:¬ j < b.length:=by have:=z0i h3; omega
    exact⟨by simp,yes (oa h2) (ob h3),no (oa h2) (ob h3)⟩
 ·have h1:j=N:=by have:=z0i hlt; omega
  rw[← h1]; exact hj.2.symm
theorem n92 (nm:List (Option AV)):CallOk Tryz.prog [] 92 (o5 EL none nm [.lf .rs,.lf .rs] d67):=x4 Tryz.func92 fo92 fun av pre rv h=>by
 unfold d67 at h; split at h <;> cases h
 exact⟨⟨rfl,fun t a e=>by cases e <;> exact z0h _ _⟩,fun hp=>⟨_,v92 _ _ (hp _ (.head _)),rfl,(m9 (n99 _) t9),u4⟩⟩
def mpA {α β:Type} (f:α→β) (d:α) (l:List α):Nat→List β
 | 0=>[]
 | q + 1=>mpA f d l q ++ [f (b6 d l q)]
theorem c3m {α β:Type} (f:α→β) (d:α) (l:List α):∀ q,(mpA f d l q).length=q:=by
 intro q
 induction q with
 | zero=>rfl
 | succ q ih=>simp[mpA,ih]
theorem c7q {α β:Type} (f:α→β) (d:α) (l:List α):∀ q,q≤l.length→mpA f d l q=(l.take q).map f:=by
 intro q
 induction q with
 | zero=>intro _; simp[mpA]
 | succ q ih =>
  intro h
  rw[mpA,ih (by omega),List.take_succ_eq_append_getElem (by omega),o6 d l q (by omega),List.map_append,List.map_singleton]
theorem a49 {α β:Type} (f:α→β) (d:α) (l:List α):mpA f d l l.length=l.map f:=by
 rw[c7q f d l _ (z0q _),z3l]
def toB:Int→Option Int:=fun a=>bif a == -2 then some (-2) else bif a == -1 then some (-1) else none
def toM (L:List Int):Int→Option Int:=a4o toB L L.length
def toF (L:List Int) (i:Int):Int:=a1x (toM L i)
def arE (E:List Ev) (L:List Int):List Ev:=L.map (evA E)
def arR (R:List Int) (L:List Int):List Int:=L.map (fun i=>toF L (inA R i))
def arM (M:List (List Int)) (L:List Int):List (List Int):=M.map (fun r=>r.map (toF L))
def lA1 (L:List Int) (t r:Nat):LAnn:=q6 L.length t (fun _=>True) (fun j=>[(r,.mapi .i64 (some .i64) (a4o toB L j))]) []
def lA2 (E:List Ev) (R:List Int) (L:List Int) (t c a b r:Nat):LAnn:=q6 L.length t (fun _=>True) (fun j=>[(c,.cells [.sl a j,.sl b j,.sl r 0]),(a,.oarr 85 j (i6 (mpA (evA E) 0 L j))),(b,.oarr 3 j (f7 (mpA (fun i=>toF L (inA R i)) 0 L j)))]) [a,b]
def lA3 (M:List (List Int)) (L:List Int) (t c a b r:Nat):LAnn:=q6 M.length t (fun _=>True) (fun o=>[(c,.cells [.sl a L.length,.sl b L.length,.sl r o]),(r,.oarr 23 o (i4 (mpA (fun q=>q.map (toF L)) [] M o)))]) [r]
def lA4 (M:List (List Int)) (L:List Int) (t s e:Nat):PLoop:=⟨Nat,fun o=>{ X:=Nat,inv:=fun q=>q≤(q8 M o).length∧o < M.length,slots:=fun q=>[(t,.i .i64 (q:Int)),(s,.sl e q)],mem:=fun q=>[(e,.oarr 3 q (f7 (mpA (toF L) 0 (q8 M o) q)))],mu:=fun q=>(q8 M o).length - q,kill:=[e] }⟩
def inO (E:List Ev) (L:List Int):Prop:=∀ i∈L,0≤i∧i < E.length
def pcA (E:List Ev) (R:List Int) (M:List (List Int)) (L:List Int):Prop:=(L.length≤64∧R.length=E.length∧M.length≤8)∧SzR M∧inO E L
def d5y:SpG:=fun
 | [.ag [.es E,.is R,.rs M],.lf (.is L)]=>some ([pcA E R M L],.gr none (arE E L) (arR R L) (arM M L))
 | _=>none
def kArr (nm:List (Option AV)):Nat × (List MBlk→List SV→Option AR):=(65,o5 EL none nm [PG,.lf .is] d5y)
section
variable {α β:Type} {f:α→β} {d:α} {l:List α} {b:β}
theorem a9z {q:Nat}:b6 b (mpA f d l (q + 1)) q=f (b6 d l q):=by
 have h:=a6u b (l:=mpA f d l q) (x:=f (b6 d l q))
 rwa [c3m] at h
theorem b00 {q j:Nat} (h:j < q):b6 b (mpA f d l (q + 1)) j=b6 b (mpA f d l q) j:=a5i b (by rw[c3m]; exact h)
theorem a51 {j q:Nat} (h:Nat.blt j q=false) (hj:j < q + 1):j=q:=by
 have:¬ j < q:=fun h'=>by rw[← z0u] at h'; rw[h] at h'; cases h'
 omega
theorem a00 (g:β→Int) {q:Nat} {x:Int} (hx:x=g (f (b6 d l q))):∀ j,j < q + 1→(bif Nat.blt j q then g (b6 b (mpA f d l q) j) else d9 [x] (j - q))=g (b6 b (mpA f d l (q + 1)) j):=fun j hj=>by
 cases h:Nat.blt j q
 ·obtain rfl:=a51 h hj
  rw[z0l,a9z,hx]
  rfl
 ·rw[z0f,b00 (by rwa [z0u] at h)]
end
theorem b4b {α:Type} {f:α→Int} {d:α} {l:List α} {q:Nat} {x:Int} (hx:x=f (b6 d l q)):∀ j,j < q + 1→(bif Nat.blt j q then b6 0 (mpA f d l q) j else d9 [x] (j - q))=b6 0 (mpA f d l (q + 1)) j:=a00 (fun x=>x) hx
theorem fo65:p8 Tryz.prog 65:=⟨Tryz.f65,Tryz.func65,by kernel_rfl,by kernel_rfl⟩
def q65D (E:List Ev) (R:List Int) (M:List (List Int)) (L:List Int):Prop:=p7 (({ loops:=[(0,.of (lA1 L 20 6)),(2,.of (lA2 E R L 31 7 8 9 10)),(4,.of (lA3 M L 61 7 8 9 10)),(6,lA4 M L 67 13 12)],takes:=[(8,fun _ _=>[.fresh 7 0 85 9,.fresh 7 1 3 1,.fresh 7 2 23 1,.cols 10 (i4 [])])] }:Kit)).tab Tryz.f65 [grV E R M,.sl 3 L.length] (grM E R M ++ [.arr L.length (f7 L)]) ((QV.gr none (arE E L) (arR R L) (arM M L)).post EL)
theorem d80 (E:List Ev) (R:List Int) (M:List (List Int)) (L:List Int):q65D E R M L=(
 let a:=E.length=E.length∧R.length=R.length∧M.length=M.length
 let b:=(0:Int)
 let c:=(↑L.length:Int)
 let d:=evA E
 let e:=arE E L
 let f:=(0:Nat)
 let g:=(1:Nat)
 let h:=(↑M.length:Int)
 let l:=(9223372036854775807:Nat)
 let m:=toF L
 let n:=PLoop.of (lA2 E R L (31:Nat) (7:Nat) (8:Nat) (9:Nat) (10:Nat))
 let o:=PLoop.of (lA3 M L (61:Nat) (7:Nat) (8:Nat) (9:Nat) (10:Nat))
 let p:=(140737488355328:Nat)
 let r:=True∧True∧True
 let s:=arM M L
 let t:=lA4 M L (67:Nat) (13:Nat) (12:Nat)
 let u:=PLoop.of (lA1 L (20:Nat) (6:Nat))
 ∃(x:PUnit),(∃(x:Nat),(x≤L.length∧True)∧(b=(↑x:Int)∧True)∧(∀(x_1:Int),(bif x_1 ==(-2:Int) then some (-2:Int) else bif x_1 ==(-1:Int) then some (-1:Int) else none)=a4o toB L x x_1)∧True)∧∀(x_1:Nat),x_1≤L.length∧True→(decide ((↑x_1:Int) < c)=true→(b≤(↑x_1:Int)∧(↑x_1:Int) < c)∧x_1 < L.length∧∃(x_2:Nat),(x_2≤L.length∧True)∧(u.ann x).mu x_2 < (u.ann x).mu x_1∧(a∧L.length=L.length∧True∧True∧True∧True∧True∧L.length=L.length∧c=c∧IntKind.i64.wrap ((↑x_1:Int) + (1:Int))=(↑x_2:Int)∧True)∧eqA E.length (i6 E)∧eqA R.length (f7 R)∧eqA M.length (i4 M)∧eqA L.length (f7 L)∧a∧r∧(∀(x:Int),(bif x ==b6 b L x_1 then some (↑x_1:Int) else a4o toB L x_1 x)=a4o toB L x_2 x)∧True)∧(decide ((↑x_1:Int) < c)=false→f=f∧∃(x:PUnit),(∃(x:Nat),(x≤L.length∧True)∧(b=(↑x:Int)∧True)∧(f=x∧f=x∧f=f)∧(f=x∧x=f∧x=f∧x=f∧x=f∧x=f∧x=f∧x=f∧x=f∧x=f∧True)∧(f=x∧x=f∧True)∧True)∧∀(x_2:Nat),x_2≤L.length∧True→(decide ((↑x_2:Int) < c)=true→(b≤(↑x_2:Int)∧(↑x_2:Int) < c)∧x_2 < L.length∧(b≤b6 b L x_2∧b6 b L x_2 < (↑E.length:Int))∧(b6 b L x_2).toNat < E.length∧x_2=x_2∧g=g∧(x_2 + g) * (72:Nat)≤p∧x_2 + g≤l∧(b≤b6 b L x_2∧b6 b L x_2 < (↑R.length:Int))∧(b6 b L x_2).toNat < R.length∧x_2=x_2∧g=g∧(x_2 + g) * (8:Nat)≤p∧x_2 + g≤l∧∃(x_3:Nat),(x_3≤L.length∧True)∧(n.ann x).mu x_3 < (n.ann x).mu x_2∧(a∧L.length=L.length∧True∧True∧True∧True∧True∧True∧L.length=L.length∧c=c∧(↑x_1:Int)=(↑x_1:Int)∧false=false∧L.length=L.length∧c=c∧IntKind.i64.wrap ((↑x_2:Int) + (1:Int))=(↑x_3:Int)∧True)∧eqA E.length (i6 E)∧eqA R.length (f7 R)∧eqA M.length (i4 M)∧eqA
 L.length (f7 L)∧a∧r∧(∀(x:Int),a4o toB L x_1 x=a4o toB L x_1 x)∧(x_2 + g=x_3∧x_2 + g=x_3∧f=f)∧(x_2 + g=x_3∧(∀(j:Nat),j < x_3→(bif j.blt x_2 then(b6 e0 (mpA d b L x_2) j).ag else d9 [(b6 e0 E (b6 b L x_2).toNat).ag] (j - x_2))=(b6 e0 (mpA d b L x_3) j).ag)∧(∀(j:Nat),j < x_3→(bif j.blt x_2 then(b6 e0 (mpA d b L x_2) j).ix else d9 [(b6 e0 E (b6 b L x_2).toNat).ix] (j - x_2))=(b6 e0 (mpA d b L x_3) j).ix)∧(∀(j:Nat),j < x_3→(bif j.blt x_2 then(b6 e0 (mpA d b L x_2) j).k else d9 [(b6 e0 E (b6 b L x_2).toNat).k] (j - x_2))=(b6 e0 (mpA d b L x_3) j).k)∧(∀(j:Nat),j < x_3→(bif j.blt x_2 then(b6 e0 (mpA d b L x_2) j).ob else d9 [(b6 e0 E (b6 b L x_2).toNat).ob] (j - x_2))=(b6 e0 (mpA d b L x_3) j).ob)∧(∀(j:Nat),j < x_3→(bif j.blt x_2 then(b6 e0 (mpA d b L x_2) j).mu else d9 [(b6 e0 E (b6 b L x_2).toNat).mu] (j - x_2))=(b6 e0 (mpA d b L x_3) j).mu)∧(∀(j:Nat),j < x_3→(bif j.blt x_2 then(b6 e0 (mpA d b L x_2) j).en else d9 [(b6 e0 E (b6 b L x_2).toNat).en] (j - x_2))=(b6 e0 (mpA d b L x_3) j).en)∧(∀(j:Nat),j < x_3→(bif j.blt x_2 then(b6 e0 (mpA d b L x_2) j).od else d9 [(b6 e0 E (b6 b L x_2).toNat).od] (j - x_2))=(b6 e0 (mpA d b L x_3) j).od)∧(∀(j:Nat),j < x_3→(bif j.blt x_2 then(b6 e0 (mpA d b L x_2) j).rd else d9 [(b6 e0 E (b6 b L x_2).toNat).rd] (j - x_2))=(b6 e0 (mpA d b L x_3) j).rd)∧(∀(j:Nat),j < x_3→(bif j.blt x_2 then(b6 e0 (mpA d b L x_2) j).wr else d9 [(b6 e0 E (b6 b L x_2).toNat).wr] (j - x_2))=(b6 e0 (mpA d b L x_3) j).wr)∧True)∧(x_2 + g=x_3∧(∀(j:Nat),j < x_3→(bif j.blt x_2
 then b6 b (mpA (fun(i:Int)=>toF L (inA R i)) b L x_2) j else d9 [a1x (a4o toB L x_1 (b6 b R (b6 b L x_2).toNat))] (j - x_2))=b6 b (mpA (fun(i:Int)=>toF L (inA R i)) b L x_3) j)∧True)∧eqA f (i4 [])∧True)∧(decide ((↑x_2:Int) < c)=false→∃(x:PUnit),(∃(x:Nat),(x≤M.length∧True)∧(b=(↑x:Int)∧True)∧(x_2=L.length∧x_2=L.length∧f=x)∧(f=x∧((∀(j:Nat),j < x→(b6 ([]:List Int) [] j).length=(b6 [] (mpA (fun(q:List Int)=>List.map m q) [] M x) j).length)∧(∀(j:Nat),j < x→∀(i:Nat),i < (b6 [] (mpA (fun(q:List Int)=>List.map m q) [] M x) j).length→b6 b (b6 ([]:List Int) [] j) i=b6 b (b6 [] (mpA (fun(q:List Int)=>List.map m q) [] M x) j) i)∧True)∧True)∧True)∧∀(x_3:Nat),x_3≤M.length∧True→(decide ((↑x_3:Int) < h)=true→(b≤(↑x_3:Int)∧(↑x_3:Int) < h)∧x_3 < M.length∧∃(x_4:Nat),(∃(x:Nat),(x≤(q8 M x_4).length∧x_4 < M.length)∧(b=(↑x:Int)∧f=x∧True)∧(f=x∧x=f∧True)∧True)∧∀(x_5:Nat),x_5≤(q8 M x_4).length∧x_4 < M.length→(decide ((↑x_5:Int) < (↑(b6 [] M x_3).length:Int))=true→(b≤(↑x_5:Int)∧(↑x_5:Int) < (↑(b6 [] M x_3).length:Int))∧x_5 < (b6 [] M x_3).length∧x_5=x_5∧g=g∧(x_5 + g) * (8:Nat)≤p∧x_5 + g≤l∧∃(x:Nat),(x≤(q8 M x_4).length∧x_4 < M.length)∧(t.ann x_4).mu x < (t.ann x_4).mu x_5∧(a∧L.length=L.length∧True∧True∧True∧True∧(b6 [] M x_3).length=(b6 [] M x_3).length∧x_5 + g=x∧True∧True∧L.length=L.length∧c=c∧(↑x_1:Int)=(↑x_1:Int)∧false=false∧L.length=L.length∧c=c∧(↑x_2:Int)=(↑x_2:Int)∧false=false∧True∧M.length=M.length∧h=h∧(↑x_3:Int)=(↑x_3:Int)∧true=true∧x_3=x_3∧(b6 [] M x_3).length=(b6 [] M x_3).length∧(b6 [] M
 x_3).length=(b6 [] M x_3).length∧(↑(b6 [] M x_3).length:Int)=(↑(b6 [] M x_3).length:Int)∧IntKind.i64.wrap ((↑x_5:Int) + (1:Int))=(↑x:Int)∧True)∧eqA E.length (i6 E)∧eqA R.length (f7 R)∧eqA M.length (i4 M)∧eqA L.length (f7 L)∧a∧r∧(∀(x:Int),a4o toB L x_1 x=a4o toB L x_1 x)∧(L.length=L.length∧L.length=L.length∧x_3=x_3)∧eqA x_2 (i6 (mpA d b L x_2))∧eqA x_2 (f7 (mpA (fun(i:Int)=>toF L (inA R i)) b L x_2))∧eqA x_3 (i4 (mpA (fun(q:List Int)=>List.map m q) [] M x_3))∧eqA (b6 [] M x_3).length [Col.int IntKind.i64 fun(i:Nat)=>b6 b (b6 [] M x_3) i]∧(x_5 + g=x∧(∀(j:Nat),j < x→(bif j.blt x_5 then b6 b (mpA m b (q8 M x_4) x_5) j else d9 [a1x (a4o toB L x_1 (b6 b (b6 [] M x_3) x_5))] (j - x_5))=b6 b (mpA m b (q8 M x_4) x) j)∧True)∧True)∧(decide ((↑x_5:Int) < (↑(b6 [] M x_3).length:Int))=false→x_5=x_5∧x_3=x_3∧g=g∧(x_3 + g) * (24:Nat)≤p∧x_3 + g≤l∧∃(x_6:Nat),(x_6≤M.length∧True)∧(o.ann x).mu x_6 < (o.ann x).mu x_3∧(a∧L.length=L.length∧True∧True∧True∧True∧True∧True∧L.length=L.length∧c=c∧(↑x_1:Int)=(↑x_1:Int)∧false=false∧L.length=L.length∧c=c∧(↑x_2:Int)=(↑x_2:Int)∧false=false∧True∧M.length=M.length∧h=h∧IntKind.i64.wrap ((↑x_3:Int) + (1:Int))=(↑x_6:Int)∧True)∧eqA E.length (i6 E)∧eqA R.length (f7 R)∧eqA M.length (i4 M)∧eqA L.length (f7 L)∧a∧r∧(∀(x:Int),a4o toB L x_1 x=a4o toB L x_1 x)∧(L.length=L.length∧L.length=L.length∧x_3 + g=x_6)∧eqA x_2 (i6 (mpA d b L x_2))∧eqA x_2 (f7 (mpA (fun(i:Int)=>toF L (inA R i)) b L x_2))∧(x_3 + g=x_6∧((∀(j:Nat),j < x_6→(bif j.blt x_3 then(b6 [] (mpA (fun(q:List
 Int)=>List.map m q) [] M x_3) j).length else x_5)=(b6 [] (mpA (fun(q:List Int)=>List.map m q) [] M x_6) j).length)∧(∀(j:Nat),j < x_6→∀(i:Nat),i < (b6 [] (mpA (fun(q:List Int)=>List.map m q) [] M x_6) j).length→(bif j.blt x_3 then fun(i:Nat)=>b6 b (b6 [] (mpA (fun(q:List Int)=>List.map m q) [] M x_3) j) i else b6 b (mpA m b (q8 M x_4) x_5)) i=b6 b (b6 [] (mpA (fun(q:List Int)=>List.map m q) [] M x_6) j) i)∧True)∧True)∧True))∧(decide ((↑x_3:Int) < h)=false→(L.length=e.length∧x_2=e.length∧(∀(j:Nat),j < e.length→(b6 e0 (mpA d b L x_2) j).ag=(b6 e0 e j).ag)∧(∀(j:Nat),j < e.length→(b6 e0 (mpA d b L x_2) j).ix=(b6 e0 e j).ix)∧(∀(j:Nat),j < e.length→(b6 e0 (mpA d b L x_2) j).k=(b6 e0 e j).k)∧(∀(j:Nat),j < e.length→(b6 e0 (mpA d b L x_2) j).ob=(b6 e0 e j).ob)∧(∀(j:Nat),j < e.length→(b6 e0 (mpA d b L x_2) j).mu=(b6 e0 e j).mu)∧(∀(j:Nat),j < e.length→(b6 e0 (mpA d b L x_2) j).en=(b6 e0 e j).en)∧(∀(j:Nat),j < e.length→(b6 e0 (mpA d b L x_2) j).od=(b6 e0 e j).od)∧(∀(j:Nat),j < e.length→(b6 e0 (mpA d b L x_2) j).rd=(b6 e0 e j).rd)∧(∀(j:Nat),j < e.length→(b6 e0 (mpA d b L x_2) j).wr=(b6 e0 e j).wr)∧True)∧(L.length=(arR R L).length∧x_2=(arR R L).length∧(∀(j:Nat),j < (arR R L).length→b6 b (mpA (fun(i:Int)=>toF L (inA R i)) b L x_2) j=b6 b (arR R L) j)∧True)∧x_3=s.length∧x_3=s.length∧((∀(j:Nat),j < s.length→(b6 [] (mpA (fun(q:List Int)=>List.map m q) [] M x_3) j).length=(b6 [] s j).length)∧(∀(j:Nat),j < s.length→∀(i:Nat),i < (b6 [] s j).length→b6 b (b6 [] (mpA (fun(q:List Int)=>List.map m q)
 [] M x_3) j) i=b6 b (b6 [] s j) i)∧True)∧True)))):=by kernel_rfl
theorem v65 (E:List Ev) (R:List Int) (M:List (List Int)) (L:List Int) (h:pcA E R M L):q65D E R M L:=by
 rw[d80]
 obtain⟨⟨hL,hR,hM⟩,hS,hO⟩:=h
 have hrow:∀ o,o < M.length→(b6 [] M o).length≤1099511627776:=fun o ho=>hS _ (by rw[o6 [] M _ ho]; exact z1r ho)
 have hin:∀ j,j < L.length→0≤b6 0 L j∧b6 0 L j < E.length:=fun j hj=>hO _ (by rw[o6 0 L _ hj]; exact z1r hj)
 simp only[eq_self,true_and,and_true,z0n,imp_self,l9,m6,n5,g7,g8,PLoop.of,q6,AV.len,g9,z0s,i9,j4,j5,l5,l6,l7,lA1,lA2,lA3,lA4]
 refine⟨(),⟨0,by omega,rfl,fun _=>rfl⟩,fun j hj=>⟨fun hlj=>?_,fun hlj=>?_⟩⟩
 ·have hj2:j < L.length:=by have:=z0e hlj; omega
  exact⟨⟨by omega,by omega⟩,hj2,j + 1,by omega,by omega,wrS (n:=L.length) hj2 (by omega),fun _=>rfl⟩
 have hj2:j=L.length:=by have:=z0i hlj; omega
 subst hj2
 refine⟨(),⟨0,by simp⟩,fun p hp=>⟨fun hlp=>?_,fun hlp=>?_⟩⟩
 ·have hp2:p < L.length:=by have:=z0e hlp; omega
  have hi:=hin p hp2
  refine⟨⟨by omega,by omega⟩,hp2,hi,by omega,by omega,by omega,by omega,by omega,by omega,by omega,p + 1,by omega,by omega,wrS (n:=L.length) hp2 (by omega),⟨rfl,rfl⟩,⟨rfl,a00 Ev.ag rfl,a00 Ev.ix rfl,a00 Ev.k rfl,a00 Ev.ob rfl,a00 Ev.mu rfl,a00 Ev.en rfl,a00 Ev.od rfl,a00 Ev.rd rfl,a00 Ev.wr rfl⟩,rfl,b4b rfl⟩
 have hp2:p=L.length:=by have:=z0i hlp; omega
 subst hp2
 refine⟨(),⟨0,by simp⟩,fun o ho=>⟨fun hlo=>?_,fun hlo=>?_⟩⟩
 ·have ho2:o < M.length:=by have:=z0e hlo; omega
  have hro:=hrow o ho2
  have hx:q8 M o=b6 [] M o:=rfl
  refine⟨⟨by omega,by omega⟩,ho2,o,⟨0,by simp[ho2]⟩,fun q hq=>⟨fun hlq=>?_,fun hlq=>?_⟩⟩
  ·have hq2:q < (b6 [] M o).length:=by have:=z0e hlq; omega
   exact⟨⟨by omega,by omega⟩,hq2,by omega,by omega,q + 1,⟨by rw[hx]; omega,ho2⟩,by rw[hx]; omega,⟨rfl,wrS (n:=(b6 [] M o).length) hq2 hro⟩,rfl,b4b rfl⟩
  ·have hq2:q=(b6 [] M o).length:=by have:=z0i hlq; have:=hq.1; rw[hx] at this; omega
   have e:mpA (toF L) 0 (q8 M o) q=(b6 [] M o).map (toF L):=by rw[hq2,← hx,a49]
   rw[e]
   refine⟨by omega,by omega,o + 1,by omega,by omega,wrS (n:=M.length) ho2 (by omega),rfl,rfl,fun j hj=>?_,fun j hj i _=>?_⟩
   ·cases hb:Nat.blt j o
    ·obtain rfl:=a51 hb hj
     rw[z0l,a9z,z2s,hq2]
    ·rw[z0f,b00 (by rwa [z0u] at hb)]
   ·cases hb:Nat.blt j o
    ·obtain rfl:=a51 hb hj
     rw[z0l,a9z]
    ·rw[z0f,b00 (by rwa [z0u] at hb)]
 have ho2:o=M.length:=by have:=z0i hlo; omega
 subst ho2
 have e1:mpA (evA E) 0 L L.length=arE E L:=a49 _ _ _
 have e2:mpA (fun i=>toF L (inA R i)) 0 L L.length=arR R L:=a49 _ _ _
 have e3:mpA (fun q:List Int=>q.map (toF L)) [] M M.length=arM M L:=a49 _ _ _
 rw[e1,e2,e3]
 have l1:L.length=(arE E L).length:=by simp[arE]
 have l2:L.length=(arR R L).length:=by simp[arR]
 have l3:M.length=(arM M L).length:=by simp[arM]
 simp only[z0n,and_true,true_and]
 exact⟨⟨l1,l1⟩,⟨l2,l2⟩,l3,l3⟩
theorem n65 (nm:List (Option AV)):CallOk Tryz.prog [] 65 (o5 EL none nm [PG,.lf .is] d5y):=x4 Tryz.func65 fo65 fun av pre rv h=>by
 unfold d5y at h; split at h <;> cases h
 exact⟨⟨rfl,fun t a e=>by cases e <;> exact z0h _ _⟩,fun hp=>⟨_,v65 _ _ _ _ (hp _ (.head _)),rfl,t9,u4⟩⟩
def a9l (l:List Int) (x:Int):Bool:=decide (y6 l x ≥ 0)
def d69:SpP:=fun | [.lf (.is l),.lf (.i x)]=>some ([L40 l.length],plB (a9l l x)) | _=>none
def kCon (nm:List (Option AV)):Nat × (List MBlk→List SV→Option AR):=(64,o5 EL none nm [.lf .is,.lf .i] d69)
def a6n (P:List Pq) (L:List Int) (k:Int):Nat→Int
 | 0=>0
 | j + 1=>bif (b6 (0,0) P j).2 == k && !L.contains (b6 (0,0) P j).1 then a6n P L k j + 1 else a6n P L k j
def a6o (P:List Pq) (b k:Int):Nat→Int
 | 0=>0
 | j + 1=>bif (b6 (0,0) P j).2 == k && (b6 (0,0) P j).1 == b then a6o P b k j + 1 else a6o P b k j
def wtL (P:List Pq) (L:List Int) (k:Int):Int:=a6n P L k P.length
def m5 (c:Int→Bool) (E:List Ev):Nat→Int
 | 0=>-1
 | i + 1=>bif c i && (decide (m5 c E i < 0) || decide ((evA E i).ag < (evA E (m5 c E i)).ag)) then(i:Int) else m5 c E i
def z7 (P:List Pq) (L:List Int) (i:Int):Bool:=wtL P L i == 0 && !a9l L i
def o9 (P:List Pq) (E:List Ev):Nat→List Int
 | 0=>[]
 | s + 1=>o9 P E s ++ [m5 (z7 P (o9 P E s)) E E.length]
theorem a2x (P:List Pq) (E:List Ev):∀ s,(o9 P E s).length=s:=by
 intro s
 induction s with
 | zero=>rfl
 | succ s ih=>simp[o9,ih]
def d5 (E:List Ev) (R:List Int) (M:List (List Int)):List Pq:=b7 E.length (wF (d7 (p9 (a0w E.length (poG E R M) (rfG E R M) (i5 E R M)) (a0w E.length (poG E R M) (rfG E R M) (i5 E R M)).length)) E.length)
def d6i (E:List Ev) (R:List Int) (M:List (List Int)):SpG:=fun
 | [.lf (.i n),.lf (.rl l)]=>some ([(n=E.length∧E.length≤64)∧l=a0w E.length (poG E R M) (rfG E R M) (i5 E R M)],b09 E.length (d5 E R M))
 | _=>none
def kPre (E:List Ev) (R:List Int) (M:List (List Int)):Nat × (List MBlk→List SV→Option AR):=(54,o5 EL none [] [.lf .i,.lf .rl] (d6i E R M))
def a8b (n:Nat) (P:List Pq):Bool:=a2t n (wF (d7 P) n)
def f8 {α:Type} (b:Bool) (l:List α):List α:=bif b then l else []
def o7 (E:List Ev) (R:List Int) (M:List (List Int)):Bool:=b8 E R M && a8b E.length (d5 E R M)
def a07 (E:List Ev) (R:List Int) (M:List (List Int)):Int:=bif b8 E R M then(bif a8b E.length (d5 E R M) then 0 else 20) else 1
def t5 (E:List Ev) (R:List Int) (M:List (List Int)):List Int:=o9 (d5 E R M) E E.length
def c24 (E:List Ev) (R:List Int) (M:List (List Int)):QV:=.gr (some (a07 E R M)) (f8 (o7 E R M) (arE E (t5 E R M))) (f8 (o7 E R M) (arR R (t5 E R M))) (f8 (o7 E R M) (arM M (t5 E R M)))
def c99:SpG:=fun
 | [.ag [.es E,.is R,.rs M]]=>some ([SzG E M],c24 E R M)
 | _=>none
def c7c (nm:List (Option AV)):Nat × (List MBlk→List SV→Option AR):=(20,o5 EL gbT nm [PG] c99)
def e0j (d z:Nat):List Slot→List MBlk→List Gh:=fun sl m=>match nth sl d with
 | some ⟨_,.ptr c 0⟩=>(match nth m c with
  | some (.cells [_,.sl q _])=>[.mv (z - c - q),.mv q,.mv c]
  | _=>[])
 | _=>[]
def lN1 (n:Nat) (P:List Pq) (t w:Nat):LAnn:=q6 P.length t (fun _=>True) (fun j=>[(w,.oarr 3 n [.int .i64 (fun k=>a6n P [] k j)])]) []
def lN2 (E:List Ev) (P:List Pq) (t o w:Nat):LAnn where
 X:=Nat
 inv:=fun s=>s≤E.length∧∀ i∈o9 P E s,0≤i∧i < E.length
 slots:=fun s=>[(t,.sl o s)]
 mem:=fun s=>[(o,.oarr 3 s (f7 (o9 P E s))),(w,.oarr 3 E.length [.int .i64 (fun k=>wtL P (o9 P E s) k)])]
 mu:=fun s=>E.length - s
 kill:=[o]
def lN3 (E:List Ev) (P:List Pq) (t b:Nat):PLoop:=⟨Nat,fun s=>{ X:=Nat,inv:=fun i=>i≤E.length∧s < E.length,slots:=fun i=>[(t,.i .i64 (i:Int)),(b,.i .i64 (m5 (z7 P (o9 P E s)) E i))],mem:=fun _=>[],mu:=fun i=>E.length - i,kill:=[] }⟩
def lN4 (E:List Ev) (P:List Pq) (t w:Nat):PLoop:=⟨Nat,fun s=>q6 P.length t (fun _=>s < E.length) (fun j=>[(w,.oarr 3 E.length [.int .i64 (fun k=>wtL P (o9 P E s) k - a6o P (m5 (z7 P (o9 P E s)) E E.length) k j)])]) []⟩
end Go.Proofs.YtaeeaniofljmnaaGreatDoor

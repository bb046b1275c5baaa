/-
  A part of the proof (N44a).
-/
import Derived.Test.YtaeeaniofljmnaaGreatDoorN40a
namespace Go.Proofs.YtaeeaniofljmnaaGreatDoor
set_option linter.unusedSimpArgs false
set_option linter.unusedVariables false
open Go Go.Proofs.YtaeeaniofljmnaaGreatDoor.Sx
set_option maxRecDepth 100000
theorem d7i:o8 Tryz.prog 181:=⟨Tryz.f181,Tryz.func181,by kernel_rfl,by kernel_rfl⟩
def d33 (n:Int):Prop:=n9 (({}:Kit)).tab Tryz.f181 [.i .i64 n] [] (l8 (.b (a1c n)))
theorem d1y (n:Int):d33 n=((n != n)=a1c n):=by kernel_rfl
theorem v181 (n:Int) :d33 n:=by
 rw[d1y]
 first | simp[a1c] | (rw[a1c]; simp)
theorem n181 (nm:List (Option AV)):CallOk Tryz.prog [] 181 (n8 EL none nm [.lf .i] (sI1 a1c)):=y5 Tryz.func181 d7i fun av pre rv h=>by
 unfold sI1 at h; split at h <;> cases h
 exact⟨⟨rfl,fun t a e=>by cases e <;> exact z0k _ _⟩,fun hp=>⟨_,v181 _ ,rfl,v4,v5⟩⟩
theorem d7j:o8 Tryz.prog 182:=⟨Tryz.f182,Tryz.func182,by kernel_rfl,by kernel_rfl⟩
def d34 (n:Int):Prop:=n9 (({}:Kit)).tab Tryz.f182 [.i .i64 n] [] (l8 (.b (a1c n)))
theorem d1z (n:Int):d34 n=((n != n)=a1c n):=by kernel_rfl
theorem v182 (n:Int) :d34 n:=by
 rw[d1z]
 first | simp[a1c] | (rw[a1c]; simp)
theorem n182 (nm:List (Option AV)):CallOk Tryz.prog [] 182 (n8 EL none nm [.lf .i] (sI1 a1c)):=y5 Tryz.func182 d7j fun av pre rv h=>by
 unfold sI1 at h; split at h <;> cases h
 exact⟨⟨rfl,fun t a e=>by cases e <;> exact z0k _ _⟩,fun hp=>⟨_,v182 _ ,rfl,v4,v5⟩⟩
theorem d7k:o8 Tryz.prog 183:=⟨Tryz.f183,Tryz.func183,by kernel_rfl,by kernel_rfl⟩
def d35 (n:Int):Prop:=n9 (({}:Kit)).tab Tryz.f183 [.i .i64 n] [] (l8 (.b (a1c n)))
theorem d20 (n:Int):d35 n=((n != n)=a1c n):=by kernel_rfl
theorem v183 (n:Int) :d35 n:=by
 rw[d20]
 first | simp[a1c] | (rw[a1c]; simp)
theorem n183 (nm:List (Option AV)):CallOk Tryz.prog [] 183 (n8 EL none nm [.lf .i] (sI1 a1c)):=y5 Tryz.func183 d7k fun av pre rv h=>by
 unfold sI1 at h; split at h <;> cases h
 exact⟨⟨rfl,fun t a e=>by cases e <;> exact z0k _ _⟩,fun hp=>⟨_,v183 _ ,rfl,v4,v5⟩⟩
theorem d78:o8 Tryz.prog 141:=⟨Tryz.f141,Tryz.func141,by kernel_rfl,by kernel_rfl⟩
def d2y (a b:Int):Prop:=n9 (({ calls:=[kI1 181 a1c] }:Kit)).tab Tryz.f141 [.i .i64 a,.i .i64 b] [] (l8 (.i .i64 (j9 a b)))
theorem d1p (a b:Int):d2y a b=((a1c a=true→(a1c b=true→(0:Int)=j9 a b)∧(a1c b=false→(-1:Int)=j9 a b))∧(a1c a=false→(a1c b=true→(1:Int)=j9 a b)∧(a1c b=false→(decide (a < b)=true→(-1:Int)=j9 a b)∧(decide (a < b)=false→(decide (a > b)=true→(1:Int)=j9 a b)∧(decide (a > b)=false→(0:Int)=j9 a b))))):=by kernel_rfl
theorem v141 (a b:Int) :d2y a b:=by
 rw[d1p]
 simp only[j9,a1c]; grind
theorem n141 (nm:List (Option AV)):CallOk Tryz.prog [] 141 (n8 EL none nm [.lf .i,.lf .i] c1k):=y5 Tryz.func141 d78 fun av pre rv h=>by
 unfold c1k at h; split at h <;> cases h
 exact⟨⟨rfl,fun t a e=>by cases e <;> exact z0k _ _⟩,fun hp=>⟨_,v141 _ _ ,rfl,(m9 (n181 _) v4),v5⟩⟩
theorem d79:o8 Tryz.prog 142:=⟨Tryz.f142,Tryz.func142,by kernel_rfl,by kernel_rfl⟩
def d2z (a b:Int):Prop:=n9 (({ calls:=[kI1 182 a1c] }:Kit)).tab Tryz.f142 [.i .i64 a,.i .i64 b] [] (l8 (.i .i64 (j9 a b)))
theorem d1q (a b:Int):d2z a b=((a1c a=true→(a1c b=true→(0:Int)=j9 a b)∧(a1c b=false→(-1:Int)=j9 a b))∧(a1c a=false→(a1c b=true→(1:Int)=j9 a b)∧(a1c b=false→(decide (a < b)=true→(-1:Int)=j9 a b)∧(decide (a < b)=false→(decide (a > b)=true→(1:Int)=j9 a b)∧(decide (a > b)=false→(0:Int)=j9 a b))))):=by kernel_rfl
theorem v142 (a b:Int) :d2z a b:=by
 rw[d1q]
 simp only[j9,a1c]; grind
theorem n142 (nm:List (Option AV)):CallOk Tryz.prog [] 142 (n8 EL none nm [.lf .i,.lf .i] c1k):=y5 Tryz.func142 d79 fun av pre rv h=>by
 unfold c1k at h; split at h <;> cases h
 exact⟨⟨rfl,fun t a e=>by cases e <;> exact z0k _ _⟩,fun hp=>⟨_,v142 _ _ ,rfl,(m9 (n182 _) v4),v5⟩⟩
theorem d7a:o8 Tryz.prog 143:=⟨Tryz.f143,Tryz.func143,by kernel_rfl,by kernel_rfl⟩
def d30 (a b:Int):Prop:=n9 (({ calls:=[kI1 183 a1c] }:Kit)).tab Tryz.f143 [.i .i64 a,.i .i64 b] [] (l8 (.i .i64 (j9 a b)))
theorem d1r (a b:Int):d30 a b=((a1c a=true→(a1c b=true→(0:Int)=j9 a b)∧(a1c b=false→(-1:Int)=j9 a b))∧(a1c a=false→(a1c b=true→(1:Int)=j9 a b)∧(a1c b=false→(decide (a < b)=true→(-1:Int)=j9 a b)∧(decide (a < b)=false→(decide (a > b)=true→(1:Int)=j9 a b)∧(decide (a > b)=false→(0:Int)=j9 a b))))):=by kernel_rfl
theorem v143 (a b:Int) :d30 a b:=by
 rw[d1r]
 simp only[j9,a1c]; grind
theorem n143 (nm:List (Option AV)):CallOk Tryz.prog [] 143 (n8 EL none nm [.lf .i,.lf .i] c1k):=y5 Tryz.func143 d7a fun av pre rv h=>by
 unfold c1k at h; split at h <;> cases h
 exact⟨⟨rfl,fun t a e=>by cases e <;> exact z0k _ _⟩,fun hp=>⟨_,v143 _ _ ,rfl,(m9 (n183 _) v4),v5⟩⟩
theorem fo96:o8 Tryz.prog 96:=⟨Tryz.f96,Tryz.func96,by kernel_rfl,by kernel_rfl⟩
def q96D (l:List Int):Prop:=n9 (({ loops:=[(0,.of (lOr l 8))] }:Kit)).tab Tryz.f96 [.sl 0 l.length] [.arr l.length (j6 l)] (l8 (.i .i64 (orF l)))
theorem d65 (l:List Int):q96D l=(
 let a:=(0:Int)
 let b:=(↑l.length:Int)
 let c:=PLoop.of (lOr l (8:Nat))
 ∃(x:PUnit),(∃(x:Nat),(x≤l.length∧∀(q:Nat),q < x→b8 a l q=a)∧(a=(↑x:Int)∧True)∧True)∧∀(x_1:Nat),(x_1≤l.length∧∀(q:Nat),q < x_1→b8 a l q=a)→(decide ((↑x_1:Int) < b)=true→(a≤(↑x_1:Int)∧(↑x_1:Int) < b)∧x_1 < l.length∧((b8 a l x_1 !=a)=true→b8 a l x_1=orF l)∧((b8 a l x_1 !=a)=false→∃(x_2:Nat),(x_2≤l.length∧∀(q:Nat),q < x_2→b8 a l q=a)∧(c.ann x).mu x_2 < (c.ann x).mu x_1∧(l.length=l.length∧a=a∧l.length=l.length∧b=b∧IntKind.i64.wrap ((↑x_1:Int) + (1:Int))=(↑x_2:Int)∧True)∧eqA l.length (j6 l)∧True))∧(decide ((↑x_1:Int) < b)=false→a=orF l)):=by kernel_rfl
theorem v96 (l:List Int) (h:L40 l.length):q96D l:=by
 rw[d65]
 simp only[eq_self,true_and,and_true,z0p,imp_self,m5,n5,o0,g8,i9,PLoop.of,s5,AV.len,j5,z0v,j8,l5,l6,m6,m7,m8,lOr]
 refine⟨(),⟨0,⟨by omega,fun q hq=>absurd hq (z1l _)⟩,rfl⟩,fun j hj=>⟨fun hlt=>?_,fun hlt=>?_⟩⟩
 ·have h1:j < l.length:=by have:=z0e hlt; omega
  refine⟨⟨by omega,by omega⟩,h1,fun he=>?_,fun he=>⟨j + 1,⟨by omega,fun q hq=>?_⟩,by omega,wrS (n:=l.length) h1 h⟩⟩
  ·exact(c9w hj.2 h1 (by simpa using he)).symm
  ·by_cases e:q=j
   ·subst e; simpa using he
   ·exact hj.2 q (by omega)
 ·have h1:j=l.length:=by have:=z0l hlt; omega
  subst h1
  exact(c6z hj.2).symm
theorem n96 (nm:List (Option AV)):CallOk Tryz.prog [] 96 (n8 EL none nm [.lf .is] sOr):=y5 Tryz.func96 fo96 fun av pre rv h=>by
 unfold sOr at h; split at h <;> cases h
 exact⟨⟨rfl,fun t a e=>by cases e <;> exact z0k _ _⟩,fun hp=>⟨_,v96 _ (hp _ (.head _)),rfl,v4,v5⟩⟩
theorem fo98:o8 Tryz.prog 98:=⟨Tryz.f98,Tryz.func98,by kernel_rfl,by kernel_rfl⟩
def q98D (a b:Ev):Prop:=n9 (({ calls:=[c9l 141,c9l 142,c9l 143,kOr (no 2 ++ [some (.is [j9 a.ag b.ag,j9 a.ix b.ix,j9 a.k b.k,j9 a.ob b.ob,j9 a.mu b.mu,j9 a.en b.en,j9 a.od b.od,j9 a.rd b.rd,j9 a.wr b.wr])])] }:Kit)).tab Tryz.f98 [a6k a,a6k b] [] (l8 (.i .i64 (a4y a b)))
theorem d67 (a b:Ev):q98D a b=((9:Nat)=(9:Nat)∧mkN (e8 [j9 a.ag b.ag,j9 a.ix b.ix,j9 a.k b.k,j9 a.ob b.ob,j9 a.mu b.mu,j9 a.en b.en,j9 a.od b.od,j9 a.rd b.rd,j9 a.wr b.wr]) (9:Nat)=[j9 a.ag b.ag,j9 a.ix b.ix,j9 a.k b.k,j9 a.ob b.ob,j9 a.mu b.mu,j9 a.en b.en,j9 a.od b.od,j9 a.rd b.rd,j9 a.wr b.wr]∧[j9 a.ag b.ag,j9 a.ix b.ix,j9 a.k b.k,j9 a.ob b.ob,j9 a.mu b.mu,j9 a.en b.en,j9 a.od b.od,j9 a.rd b.rd,j9 a.wr b.wr].length≤(1099511627776:Nat)∧orF [j9 a.ag b.ag,j9 a.ix b.ix,j9 a.k b.k,j9 a.ob b.ob,j9 a.mu b.mu,j9 a.en b.en,j9 a.od b.od,j9 a.rd b.rd,j9 a.wr b.wr]=a4y a b):=by kernel_rfl
theorem v98 (a b:Ev) :q98D a b:=by
 rw[d67]
 simp only[eq_self,true_and,and_true,z0p,imp_self,m5,n5,o0,g8,i9,PLoop.of,s5,AV.len,j5,z0v,j8,l5,l6,m6,m7,m8]
 exact⟨rfl,by simp,rfl⟩
theorem n98 (nm:List (Option AV)):CallOk Tryz.prog [] 98 (n8 EL none nm [.lf .ev,.lf .ev] d44):=y5 Tryz.func98 fo98 fun av pre rv h=>by
 unfold d44 at h; split at h <;> cases h
 exact⟨⟨rfl,fun t a e=>by cases e <;> exact z0k _ _⟩,fun hp=>⟨_,v98 _ _ ,rfl,(m9 (n141 _) (m9 (n142 _) (m9 (n143 _) (m9 (n96 _) v4)))),v5⟩⟩
theorem fo99:o8 Tryz.prog 99:=⟨Tryz.f99,Tryz.func99,by kernel_rfl,by kernel_rfl⟩
def q99D (l m:List Int):Prop:=n9 (({ calls:=[c9l 141],loops:=[(0,.of (b1e j9 0 l m 11))] }:Kit)).tab Tryz.f99 [.sl 0 l.length,.sl 1 m.length] [.arr l.length (j6 l),.arr m.length (j6 m)] (l8 (.i .i64 (u6 j9 l m)))
theorem d68 (l m:List Int):q99D l m=(
 let a:=(0:Int)
 let b:=(↑l.length:Int)
 let c:=(↑m.length:Int)
 let d:=PLoop.of (b1e j9 a l m (11:Nat))
 ∃(x:PUnit),(∃(x:Nat),(x≤l.length∧x≤m.length∧∀(q:Nat),q < x→j9 (b8 a l q) (b8 a m q)=a)∧(a=(↑x:Int)∧True)∧True)∧∀(x_1:Nat),(x_1≤l.length∧x_1≤m.length∧∀(q:Nat),q < x_1→j9 (b8 a l q) (b8 a m q)=a)→(decide ((↑x_1:Int) < b)=true→(a≤(↑x_1:Int)∧(↑x_1:Int) < b)∧x_1 < l.length∧(decide ((↑x_1:Int) ≥ c)=true→(1:Int)=u6 j9 l m)∧(decide ((↑x_1:Int) ≥ c)=false→(a≤(↑x_1:Int)∧(↑x_1:Int) < c)∧x_1 < m.length∧((j9 (b8 a l x_1) (b8 a m x_1) !=a)=true→j9 (b8 a l x_1) (b8 a m x_1)=u6 j9 l m)∧((j9 (b8 a l x_1) (b8 a m x_1) !=a)=false→∃(x_2:Nat),(x_2≤l.length∧x_2≤m.length∧∀(q:Nat),q < x_2→j9 (b8 a l q) (b8 a m q)=a)∧(d.ann x).mu x_2 < (d.ann x).mu x_1∧(l.length=l.length∧m.length=m.length∧l.length=l.length∧b=b∧IntKind.i64.wrap ((↑x_1:Int) + (1:Int))=(↑x_2:Int)∧True)∧eqA l.length (j6 l)∧eqA m.length (j6 m)∧True)))∧(decide ((↑x_1:Int) < b)=false→(decide (b < c)=true→(-1:Int)=u6 j9 l m)∧(decide (b < c)=false→a=u6 j9 l m))):=by kernel_rfl
theorem v99 (l m:List Int) (h:L40 l.length):q99D l m:=by
 rw[d68]
 simp only[eq_self,true_and,and_true,z0p,imp_self,m5,n5,o0,g8,i9,PLoop.of,s5,AV.len,j5,z0v,j8,l5,l6,m6,m7,m8,b1e]
 refine⟨(),⟨0,⟨by omega,by omega,fun q hq=>absurd hq (z1l _)⟩,rfl⟩,fun j hj=>⟨fun hlt=>?_,fun hlt=>?_⟩⟩
 ·have h1:j < l.length:=by have:=z0e hlt; omega
  refine⟨⟨by omega,by omega⟩,h1,fun hm=>?_,fun hm=>?_⟩
  ·have h2:j=m.length:=by have:=z0e hm; omega
   subst h2
   rw[a5c (d:=(0:Int)) fun q _ h=>hj.2.2 q h]
   have:decide (m.length < l.length)=true:=by simp; omega
   rw[this]; rfl
  have h2:j < m.length:=by have:=z0l hm; omega
  refine⟨⟨by omega,by omega⟩,h2,fun he=>?_,fun he=>⟨j + 1,⟨by omega,by omega,fun q hq=>?_⟩,by omega,wrS (n:=l.length) h1 h⟩⟩
  ·exact(a8u (d:=(0:Int)) hj.2.2 h1 h2 (by simpa using he)).symm
  ·by_cases e:q=j
   ·subst e; simpa using he
   ·exact hj.2.2 q (by omega)
 ·have h1:j=l.length:=by have:=z0l hlt; omega
  subst h1
  rw[a5c (d:=(0:Int)) fun q h _=>hj.2.2 q h]
  have h3:decide (m.length < l.length)=false:=by have:=hj.2.1; simp; omega
  rw[h3,z0m]
  refine⟨fun h4=>?_,fun h4=>?_⟩
  ·have:decide (l.length < m.length)=true:=by have:=z0e h4; simp; omega
   rw[this]; rfl
  ·have:decide (l.length < m.length)=false:=by have:=z0l h4; simp; omega
   rw[this]; rfl
theorem n99 (nm:List (Option AV)):CallOk Tryz.prog [] 99 (n8 EL none nm [.lf .is,.lf .is] c4y):=y5 Tryz.func99 fo99 fun av pre rv h=>by
 unfold c4y at h; split at h <;> cases h
 exact⟨⟨rfl,fun t a e=>by cases e <;> exact z0k _ _⟩,fun hp=>⟨_,v99 _ _ (hp _ (.head _)),rfl,(m9 (n141 _) v4),v5⟩⟩
theorem fo97:o8 Tryz.prog 97:=⟨Tryz.f97,Tryz.func97,by kernel_rfl,by kernel_rfl⟩
def q97D (l m:List Ev):Prop:=n9 (({ calls:=[kCmE],loops:=[(0,.of (b1e a4y e0 l m 13))] }:Kit)).tab Tryz.f97 [.sl 0 l.length,.sl 1 m.length,.fn 98 []] [.arr l.length (g9 l),.arr m.length (g9 m)] (l8 (.i .i64 (u6 a4y l m)))
theorem d66 (l m:List Ev):q97D l m=(
 let a:=(↑l.length:Int)
 let b:=(↑m.length:Int)
 let c:=(0:Int)
 let d:=PLoop.of (b1e a4y e0 l m (13:Nat))
 ∃(x:PUnit),(∃(x:Nat),(x≤l.length∧x≤m.length∧∀(q:Nat),q < x→a4y (b8 e0 l q) (b8 e0 m q)=c)∧(c=(↑x:Int)∧True)∧True)∧∀(x_1:Nat),(x_1≤l.length∧x_1≤m.length∧∀(q:Nat),q < x_1→a4y (b8 e0 l q) (b8 e0 m q)=c)→(decide ((↑x_1:Int) < a)=true→(c≤(↑x_1:Int)∧(↑x_1:Int) < a)∧x_1 < l.length∧(decide ((↑x_1:Int) ≥ b)=true→(1:Int)=u6 a4y l m)∧(decide ((↑x_1:Int) ≥ b)=false→(c≤(↑x_1:Int)∧(↑x_1:Int) < b)∧x_1 < m.length∧((a4y (b8 e0 l x_1) (b8 e0 m x_1) !=c)=true→a4y (b8 e0 l x_1) (b8 e0 m x_1)=u6 a4y l m)∧((a4y (b8 e0 l x_1) (b8 e0 m x_1) !=c)=false→∃(x_2:Nat),(x_2≤l.length∧x_2≤m.length∧∀(q:Nat),q < x_2→a4y (b8 e0 l q) (b8 e0 m q)=c)∧(d.ann x).mu x_2 < (d.ann x).mu x_1∧(l.length=l.length∧m.length=m.length∧True∧l.length=l.length∧a=a∧IntKind.i64.wrap ((↑x_1:Int) + (1:Int))=(↑x_2:Int)∧True)∧eqA l.length (g9 l)∧eqA m.length (g9 m)∧True)))∧(decide ((↑x_1:Int) < a)=false→(decide (a < b)=true→(-1:Int)=u6 a4y l m)∧(decide (a < b)=false→c=u6 a4y l m))):=by kernel_rfl
theorem v97 (l m:List Ev) (h:L40 l.length):q97D l m:=by
 rw[d66]
 simp only[eq_self,true_and,and_true,z0p,imp_self,m5,n5,o0,g8,i9,PLoop.of,s5,AV.len,j5,z0v,j8,l5,l6,m6,m7,m8,b1e]
 refine⟨(),⟨0,⟨by omega,by omega,fun q hq=>absurd hq (z1l _)⟩,rfl⟩,fun j hj=>⟨fun hlt=>?_,fun hlt=>?_⟩⟩
 ·have h1:j < l.length:=by have:=z0e hlt; omega
  refine⟨⟨by omega,by omega⟩,h1,fun hm=>?_,fun hm=>?_⟩
  ·have h2:j=m.length:=by have:=z0e hm; omega
   subst h2
   rw[a5c (d:=e0) fun q _ h=>hj.2.2 q h]
   have:decide (m.length < l.length)=true:=by simp; omega
   rw[this]; rfl
  have h2:j < m.length:=by have:=z0l hm; omega
  refine⟨⟨by omega,by omega⟩,h2,fun he=>?_,fun he=>⟨j + 1,⟨by omega,by omega,fun q hq=>?_⟩,by omega,wrS (n:=l.length) h1 h⟩⟩
  ·exact(a8u (d:=e0) hj.2.2 h1 h2 (by simpa using he)).symm
  ·by_cases e:q=j
   ·subst e; simpa using he
   ·exact hj.2.2 q (by omega)
 ·have h1:j=l.length:=by have:=z0l hlt; omega
  subst h1
  rw[a5c (d:=e0) fun q h _=>hj.2.2 q h]
  have h3:decide (m.length < l.length)=false:=by have:=hj.2.1; simp; omega
  rw[h3,z0m]
  refine⟨fun h4=>?_,fun h4=>?_⟩
  ·have:decide (l.length < m.length)=true:=by have:=z0e h4; simp; omega
   rw[this]; rfl
  ·have:decide (l.length < m.length)=false:=by have:=z0l h4; simp; omega
   rw[this]; rfl
theorem n97 (nm:List (Option AV)):CallOk Tryz.prog [] 97 (n8 EL none nm [.lf .es,.lf .es,.fc 98] d45):=y5 Tryz.func97 fo97 fun av pre rv h=>by
 unfold d45 at h; split at h <;> cases h
 exact⟨⟨rfl,fun t a e=>by cases e <;> exact z0k _ _⟩,fun hp=>⟨_,v97 _ _ (hp _ (.head _)),rfl,(m9 (n98 _) v4),v5⟩⟩
theorem nthD_out {α:Type} (d:α):∀ {l:List α} {j:Nat},l.length≤j→b8 d l j=d:=by
 intro l
 induction l with
 | nil=>intro j _; rfl
 | cons x r ih =>
  intro j h
  cases j with
  | zero=>simp at h
  | succ j=>exact ih (by simpa using h)
theorem fo92:o8 Tryz.prog 92:=⟨Tryz.f92,Tryz.func92,by kernel_rfl,by kernel_rfl⟩
def q92D (a b:List (List Int)):Prop:=n9 (({ calls:=[kCmL []],loops:=[(0,.of (b4o a b 14))] }:Kit)).tab Tryz.f92 [.sl 0 a.length,.sl 1 b.length] [.arr a.length (l4 a),.arr b.length (l4 b)] (l8 (.i .i64 (b2n a b)))
theorem d64 (a b:List (List Int)):q92D a b=(
 let c:=(if (↑b.length:Int) > (↑a.length:Int) then(↑b.length:Int) else(↑a.length:Int))=if (↑b.length:Int) > (↑a.length:Int) then(↑b.length:Int) else(↑a.length:Int)
 let d:=(↑b.length:Int)
 let e:=(↑a.length:Int)
 let f:=PLoop.of (b4o a b (14:Nat))
 let g:=(0:Int)
 let h:=(1099511627776:Nat)
 let j:=(0:Nat)
 ∃(x:PUnit),(∃(x:Nat),((x≤if b.length > a.length then b.length else a.length)∧a1o (fun(x:Nat)=>u6 j9 (a18 a x) (a18 b x)) x=g)∧(g=(↑x:Int)∧True)∧True)∧∀(x_1:Nat),(x_1≤if b.length > a.length then b.length else a.length)∧a1o (fun(x:Nat)=>u6 j9 (a18 a x) (a18 b x)) x_1=g→(decide ((↑x_1:Int) < if d > e then d else e)=true→(decide ((↑x_1:Int) < e)=true→(g≤(↑x_1:Int)∧(↑x_1:Int) < e)∧x_1 < a.length∧(decide ((↑x_1:Int) < d)=true→(g≤(↑x_1:Int)∧(↑x_1:Int) < d)∧x_1 < b.length∧(b8 [] a x_1).length=(b8 [] a x_1).length∧(b8 [] b x_1).length=(b8 [] b x_1).length∧(mkN (fun(i:Nat)=>b8 g (b8 [] a x_1) i) (b8 [] a x_1).length).length≤h∧((u6 j9 (mkN (fun(i:Nat)=>b8 g (b8 [] a x_1) i) (b8 [] a x_1).length) (mkN (fun(i:Nat)=>b8 g (b8 [] b x_1) i) (b8 [] b x_1).length) !=g)=true→u6 j9 (mkN (fun(i:Nat)=>b8 g (b8 [] a x_1) i) (b8 [] a x_1).length) (mkN (fun(i:Nat)=>b8 g (b8 [] b x_1) i) (b8 [] b x_1).length)=b2n a b)∧((u6 j9 (mkN (fun(i:Nat)=>b8 g (b8 [] a x_1) i) (b8 [] a x_1).length) (mkN (fun(i:Nat)=>b8 g (b8 [] b x_1) i) (b8 [] b x_1).length) !=g)=false→∃(x_2:Nat),((x_2≤if b.length > a.length then b.length else a.length)∧a1o (fun(x:Nat)=>u6 j9 (a18 a x) (a18 b x)) x_2=g)∧(f.ann x).mu x_2 < (f.ann x).mu x_1∧(a.length=a.length∧b.length=b.length∧a.length=a.length∧e=e∧b.length=b.length∧d=d∧c∧IntKind.i64.wrap ((↑x_1:Int) + (1:Int))=(↑x_2:Int)∧True)∧eqA a.length (l4 a)∧eqA b.length (l4 b)∧True))∧(decide ((↑x_1:Int) < d)=false→(b8 [] a x_1).length=(b8 [] a x_1).length∧j=j∧(mkN (fun(i:Nat)=>b8 g (b8 [] a
 x_1) i) (b8 [] a x_1).length).length≤h∧((u6 j9 (mkN (fun(i:Nat)=>b8 g (b8 [] a x_1) i) (b8 [] a x_1).length) [] !=g)=true→u6 j9 (mkN (fun(i:Nat)=>b8 g (b8 [] a x_1) i) (b8 [] a x_1).length) []=b2n a b)∧((u6 j9 (mkN (fun(i:Nat)=>b8 g (b8 [] a x_1) i) (b8 [] a x_1).length) [] !=g)=false→∃(x_2:Nat),((x_2≤if b.length > a.length then b.length else a.length)∧a1o (fun(x:Nat)=>u6 j9 (a18 a x) (a18 b x)) x_2=g)∧(f.ann x).mu x_2 < (f.ann x).mu x_1∧(a.length=a.length∧b.length=b.length∧a.length=a.length∧e=e∧b.length=b.length∧d=d∧c∧IntKind.i64.wrap ((↑x_1:Int) + (1:Int))=(↑x_2:Int)∧True)∧eqA a.length (l4 a)∧eqA b.length (l4 b)∧True)))∧(decide ((↑x_1:Int) < e)=false→(decide ((↑x_1:Int) < d)=true→(g≤(↑x_1:Int)∧(↑x_1:Int) < d)∧x_1 < b.length∧j=j∧(b8 [] b x_1).length=(b8 [] b x_1).length∧([]:List Pq).length≤h∧((u6 j9 [] (mkN (fun(i:Nat)=>b8 g (b8 [] b x_1) i) (b8 [] b x_1).length) !=g)=true→u6 j9 [] (mkN (fun(i:Nat)=>b8 g (b8 [] b x_1) i) (b8 [] b x_1).length)=b2n a b)∧((u6 j9 [] (mkN (fun(i:Nat)=>b8 g (b8 [] b x_1) i) (b8 [] b x_1).length) !=g)=false→∃(x_2:Nat),((x_2≤if b.length > a.length then b.length else a.length)∧a1o (fun(x:Nat)=>u6 j9 (a18 a x) (a18 b x)) x_2=g)∧(f.ann x).mu x_2 < (f.ann x).mu x_1∧(a.length=a.length∧b.length=b.length∧a.length=a.length∧e=e∧b.length=b.length∧d=d∧c∧IntKind.i64.wrap ((↑x_1:Int) + (1:Int))=(↑x_2:Int)∧True)∧eqA a.length (l4 a)∧eqA b.length (l4 b)∧True))∧(decide ((↑x_1:Int) < d)=false→j=j∧j=j∧([]:List Pq).length≤h∧((u6 j9 [] [] !=g)=true→u6 j9 [] []=b2n a
 b)∧((u6 j9 [] [] !=g)=false→∃(x_2:Nat),((x_2≤if b.length > a.length then b.length else a.length)∧a1o (fun(x:Nat)=>u6 j9 (a18 a x) (a18 b x)) x_2=g)∧(f.ann x).mu x_2 < (f.ann x).mu x_1∧(a.length=a.length∧b.length=b.length∧a.length=a.length∧e=e∧b.length=b.length∧d=d∧c∧IntKind.i64.wrap ((↑x_1:Int) + (1:Int))=(↑x_2:Int)∧True)∧eqA a.length (l4 a)∧eqA b.length (l4 b)∧True))))∧(decide ((↑x_1:Int) < if d > e then d else e)=false→g=b2n a b)):=by kernel_rfl
theorem v92 (a b:List (List Int)) (h:(L40 a.length∧L40 b.length)∧SzR a):q92D a b:=by
 rw[d64]
 obtain⟨⟨ha,hb⟩,hr⟩:=h
 have ha:a.length≤1099511627776:=ha
 have hb:b.length≤1099511627776:=hb
 have hra:∀ x,x < a.length→(b8 [] a x).length≤1099511627776:=fun o ho=>hr _ (by rw[s9 [] a _ ho]; exact z2r ho)
 simp only[eq_self,true_and,and_true,z0p,imp_self,m5,n5,o0,g8,i9,PLoop.of,s5,AV.len,j5,z0v,j8,l5,l6,m6,m7,m8,b4o]
 have hN:(if (b.length:Int) > (a.length:Int) then(b.length:Int) else(a.length:Int))=((if b.length > a.length then b.length else a.length:Nat):Int):=by
  split <;> split <;> omega
 have hN2:(if b.length > a.length then b.length else a.length)≤1099511627776:=by split <;> omega
 have hM:b2n a b=a1o (fun x=>u6 j9 (a18 a x) (a18 b x)) (if b.length > a.length then b.length else a.length):=rfl
 rw[hN,hM]
 generalize (if b.length > a.length then b.length else a.length)=N at *
 refine⟨(),⟨0,⟨by omega,rfl⟩,rfl⟩,fun j hj=>⟨fun hlt=>?_,fun hlt=>?_⟩⟩
 ·have h1:j < N:=by have:=z0e hlt; omega
  have yes:∀ {l m:List Int},a18 a j=l→a18 b j=m→(u6 j9 l m != 0)=true→u6 j9 l m=a1o (fun x=>u6 j9 (a18 a x) (a18 b x)) N:=fun {l m} e1 e2 hne=>by
   subst e1; subst e2
   exact(c5v (f:=fun x=>u6 j9 (a18 a x) (a18 b x)) hj.2 (by simpa using hne) h1).symm
  have no:∀ {l m:List Int},a18 a j=l→a18 b j=m→(u6 j9 l m != 0)=false→∃ x_2:Nat,(x_2≤N∧a1o (fun x=>u6 j9 (a18 a x) (a18 b x)) x_2=0)∧N - x_2 < N - j∧IntKind.i64.wrap ((j:Int) + 1)=(x_2:Int):=fun {l m} e1 e2 hne=>by
   subst e1; subst e2
   exact⟨j + 1,⟨by omega,c0h hj.2 (by simpa using hne)⟩,by omega,wrS (n:=N) h1 hN2⟩
  have oa:¬ j < a.length→a18 a j=[]:=fun h=>nthD_out _ (by omega)
  have ob:¬ j < b.length→a18 b j=[]:=fun h=>nthD_out _ (by omega)
  refine⟨fun h2=>?_,fun h2=>?_⟩
  ·have h2:j < a.length:=by have:=z0e h2; omega
   refine⟨⟨by omega,by omega⟩,h2,fun h3=>?_,fun h3=>?_⟩
   ·have h3:j < b.length:=by have:=z0e h3; omega
    exact⟨⟨by omega,by omega⟩,h3,hra j h2,yes rfl rfl,no rfl rfl⟩
   ·have h3:¬ j < b.length:=by have:=z0l h3; omega
    exact⟨hra j h2,yes rfl (ob h3),no rfl (ob h3)⟩
  ·have h2:¬ j < a.length:=by have:=z0l h2; omega
   refine⟨fun h3=>?_,fun h3=>?_⟩
   ·have h3:j < b.length:=by have:=z0e h3; omega
    exact⟨⟨by omega,by omega⟩,h3,by simp,yes (oa h2) rfl,no (oa h2) rfl⟩
   ·have h3:¬ j < b.length:=by have:=z0l h3; omega
    exact⟨by simp,yes (oa h2) (ob h3),no (oa h2) (ob h3)⟩
 ·have h1:j=N:=by have:=z0l hlt; omega
  rw[← h1]; exact hj.2.symm
theorem n92 (nm:List (Option AV)):CallOk Tryz.prog [] 92 (n8 EL none nm [.lf .rs,.lf .rs] d46):=y5 Tryz.func92 fo92 fun av pre rv h=>by
 unfold d46 at h; split at h <;> cases h
 exact⟨⟨rfl,fun t a e=>by cases e <;> exact z0k _ _⟩,fun hp=>⟨_,v92 _ _ (hp _ (.head _)),rfl,(m9 (n99 _) v4),v5⟩⟩
def mpA {α β:Type} (f:α→β) (d:α) (l:List α):Nat→List β
 | 0=>[]
 | q + 1=>mpA f d l q ++ [f (b8 d l q)]
theorem c2g {α β:Type} (f:α→β) (d:α) (l:List α):∀ q,(mpA f d l q).length=q:=by
 intro q
 induction q with
 | zero=>rfl
 | succ q ih=>simp[mpA,ih]
theorem c6h {α β:Type} (f:α→β) (d:α) (l:List α):∀ q,q≤l.length→mpA f d l q=(l.take q).map f:=by
 intro q
 induction q with
 | zero=>intro _; simp[mpA]
 | succ q ih =>
  intro h
  rw[mpA,ih (by omega),List.take_succ_eq_append_getElem (by omega),s9 d l q (by omega),List.map_append,List.map_singleton]
theorem b1q {α β:Type} (f:α→β) (d:α) (l:List α):mpA f d l l.length=l.map f:=by
 rw[c6h f d l _ (z0q _),z3n]
def toB:Int→Option Int:=fun a=>bif a == -2 then some (-2) else bif a == -1 then some (-1) else none
def toM (L:List Int):Int→Option Int:=a5j toB L L.length
def toF (L:List Int) (i:Int):Int:=a10 (toM L i)
def arE (E:List Ev) (L:List Int):List Ev:=L.map (evA E)
def arR (R:List Int) (L:List Int):List Int:=L.map (fun i=>toF L (inA R i))
def arM (M:List (List Int)) (L:List Int):List (List Int):=M.map (fun r=>r.map (toF L))
def lA1 (L:List Int) (t r:Nat):LAnn:=s5 L.length t (fun _=>True) (fun j=>[(r,.mapi .i64 (some .i64) (a5j toB L j))]) []
def lA2 (E:List Ev) (R:List Int) (L:List Int) (t c a b r:Nat):LAnn:=s5 L.length t (fun _=>True) (fun j=>[(c,.cells [.sl a j,.sl b j,.sl r 0]),(a,.oarr 85 j (g9 (mpA (evA E) 0 L j))),(b,.oarr 3 j (j6 (mpA (fun i=>toF L (inA R i)) 0 L j)))]) [a,b]
def lA3 (M:List (List Int)) (L:List Int) (t c a b r:Nat):LAnn:=s5 M.length t (fun _=>True) (fun o=>[(c,.cells [.sl a L.length,.sl b L.length,.sl r o]),(r,.oarr 23 o (l4 (mpA (fun q=>q.map (toF L)) [] M o)))]) [r]
def lA4 (M:List (List Int)) (L:List Int) (t s e:Nat):PLoop:=⟨Nat,fun o=>{ X:=Nat,inv:=fun q=>q≤(a18 M o).length∧o < M.length,slots:=fun q=>[(t,.i .i64 (q:Int)),(s,.sl e q)],mem:=fun q=>[(e,.oarr 3 q (j6 (mpA (toF L) 0 (a18 M o) q)))],mu:=fun q=>(a18 M o).length - q,kill:=[e] }⟩
def inO (E:List Ev) (L:List Int):Prop:=∀ i∈L,0≤i∧i < E.length
def pcA (E:List Ev) (R:List Int) (M:List (List Int)) (L:List Int):Prop:=(L.length≤64∧R.length=E.length∧M.length≤8)∧SzR M∧inO E L
def d3z:SpG:=fun
 | [.ag [.es E,.is R,.rs M],.lf (.is L)]=>some ([pcA E R M L],.gr none (arE E L) (arR R L) (arM M L))
 | _=>none
def kArr (nm:List (Option AV)):Nat × (List MBlk→List SV→Option AR):=(65,n8 EL none nm [PG,.lf .is] d3z)
section
variable {α β:Type} {f:α→β} {d:α} {l:List α} {b:β}
theorem c6i {q:Nat}:b8 b (mpA f d l (q + 1)) q=f (b8 d l q):=by
 have h:=a9e b (l:=mpA f d l q) (x:=f (b8 d l q))
 rwa [c2g] at h
theorem c6k {q j:Nat} (h:j < q):b8 b (mpA f d l (q + 1)) j=b8 b (mpA f d l q) j:=a7m b (by rw[c2g]; exact h)
theorem a5u {j q:Nat} (h:Nat.blt j q=false) (hj:j < q + 1):j=q:=by
 have:¬ j < q:=fun h'=>by rw[← z0u] at h'; rw[h] at h'; cases h'
 omega
theorem a53 (g:β→Int) {q:Nat} {x:Int} (hx:x=g (f (b8 d l q))):∀ j,j < q + 1→(bif Nat.blt j q then g (b8 b (mpA f d l q) j) else e8 [x] (j - q))=g (b8 b (mpA f d l (q + 1)) j):=fun j hj=>by
 cases h:Nat.blt j q
 ·obtain rfl:=a5u h hj
  rw[z0m,c6i,hx]
  rfl
 ·rw[z0f,c6k (by rwa [z0u] at h)]
end
theorem c6j {α:Type} {f:α→Int} {d:α} {l:List α} {q:Nat} {x:Int} (hx:x=f (b8 d l q)):∀ j,j < q + 1→(bif Nat.blt j q then b8 0 (mpA f d l q) j else e8 [x] (j - q))=b8 0 (mpA f d l (q + 1)) j:=a53 (fun x=>x) hx
theorem fo65:o8 Tryz.prog 65:=⟨Tryz.f65,Tryz.func65,by kernel_rfl,by kernel_rfl⟩
def q65D (E:List Ev) (R:List Int) (M:List (List Int)) (L:List Int):Prop:=n9 (({ loops:=[(0,.of (lA1 L 20 6)),(2,.of (lA2 E R L 31 7 8 9 10)),(4,.of (lA3 M L 61 7 8 9 10)),(6,lA4 M L 67 13 12)],takes:=[(8,fun _ _=>[.fresh 7 0 85 9,.fresh 7 1 3 1,.fresh 7 2 23 1,.cols 10 (l4 [])])] }:Kit)).tab Tryz.f65 [grV E R M,.sl 3 L.length] (grM E R M ++ [.arr L.length (j6 L)]) ((QV.gr none (arE E L) (arR R L) (arM M L)).post EL)
theorem d5r (E:List Ev) (R:List Int) (M:List (List Int)) (L:List Int):q65D E R M L=(
 let a:=E.length=E.length∧R.length=R.length∧M.length=M.length
 let b:=(0:Int)
 let c:=(↑L.length:Int)
 let d:=evA E
 let e:=arE E L
 let f:=(0:Nat)
 let g:=(1:Nat)
 let h:=(↑M.length:Int)
 let l:=(9223372036854775807:Nat)
 let m:=toF L
 let n:=PLoop.of (lA2 E R L (31:Nat) (7:Nat) (8:Nat) (9:Nat) (10:Nat))
 let o:=PLoop.of (lA3 M L (61:Nat) (7:Nat) (8:Nat) (9:Nat) (10:Nat))
 let p:=(140737488355328:Nat)
 let r:=True∧True∧True
 let s:=arM M L
 let t:=lA4 M L (67:Nat) (13:Nat) (12:Nat)
 let u:=PLoop.of (lA1 L (20:Nat) (6:Nat))
 ∃(x:PUnit),(∃(x:Nat),(x≤L.length∧True)∧(b=(↑x:Int)∧True)∧(∀(x_1:Int),(bif x_1 ==(-2:Int) then some (-2:Int) else bif x_1 ==(-1:Int) then some (-1:Int) else none)=a5j toB L x x_1)∧True)∧∀(x_1:Nat),x_1≤L.length∧True→(decide ((↑x_1:Int) < c)=true→(b≤(↑x_1:Int)∧(↑x_1:Int) < c)∧x_1 < L.length∧∃(x_2:Nat),(x_2≤L.length∧True)∧(u.ann x).mu x_2 < (u.ann x).mu x_1∧(a∧L.length=L.length∧True∧True∧True∧True∧True∧L.length=L.length∧c=c∧IntKind.i64.wrap ((↑x_1:Int) + (1:Int))=(↑x_2:Int)∧True)∧eqA E.length (g9 E)∧eqA R.length (j6 R)∧eqA M.length (l4 M)∧eqA L.length (j6 L)∧a∧r∧(∀(x:Int),(bif x ==b8 b L x_1 then some (↑x_1:Int) else a5j toB L x_1 x)=a5j toB L x_2 x)∧True)∧(decide ((↑x_1:Int) < c)=false→f=f∧∃(x:PUnit),(∃(x:Nat),(x≤L.length∧True)∧(b=(↑x:Int)∧True)∧(f=x∧f=x∧f=f)∧(f=x∧x=f∧x=f∧x=f∧x=f∧x=f∧x=f∧x=f∧x=f∧x=f∧True)∧(f=x∧x=f∧True)∧True)∧∀(x_2:Nat),x_2≤L.length∧True→(decide ((↑x_2:Int) < c)=true→(b≤(↑x_2:Int)∧(↑x_2:Int) < c)∧x_2 < L.length∧(b≤b8 b L x_2∧b8 b L x_2 < (↑E.length:Int))∧(b8 b L x_2).toNat < E.length∧x_2=x_2∧g=g∧(x_2 + g) * (72:Nat)≤p∧x_2 + g≤l∧(b≤b8 b L x_2∧b8 b L x_2 < (↑R.length:Int))∧(b8 b L x_2).toNat < R.length∧x_2=x_2∧g=g∧(x_2 + g) * (8:Nat)≤p∧x_2 + g≤l∧∃(x_3:Nat),(x_3≤L.length∧True)∧(n.ann x).mu x_3 < (n.ann x).mu x_2∧(a∧L.length=L.length∧True∧True∧True∧True∧True∧True∧L.length=L.length∧c=c∧(↑x_1:Int)=(↑x_1:Int)∧false=false∧L.length=L.length∧c=c∧IntKind.i64.wrap ((↑x_2:Int) + (1:Int))=(↑x_3:Int)∧True)∧eqA E.length (g9 E)∧eqA R.length (j6 R)∧eqA M.length (l4 M)∧eqA
 L.length (j6 L)∧a∧r∧(∀(x:Int),a5j toB L x_1 x=a5j toB L x_1 x)∧(x_2 + g=x_3∧x_2 + g=x_3∧f=f)∧(x_2 + g=x_3∧(∀(j:Nat),j < x_3→(bif j.blt x_2 then(b8 e0 (mpA d b L x_2) j).ag else e8 [(b8 e0 E (b8 b L x_2).toNat).ag] (j - x_2))=(b8 e0 (mpA d b L x_3) j).ag)∧(∀(j:Nat),j < x_3→(bif j.blt x_2 then(b8 e0 (mpA d b L x_2) j).ix else e8 [(b8 e0 E (b8 b L x_2).toNat).ix] (j - x_2))=(b8 e0 (mpA d b L x_3) j).ix)∧(∀(j:Nat),j < x_3→(bif j.blt x_2 then(b8 e0 (mpA d b L x_2) j).k else e8 [(b8 e0 E (b8 b L x_2).toNat).k] (j - x_2))=(b8 e0 (mpA d b L x_3) j).k)∧(∀(j:Nat),j < x_3→(bif j.blt x_2 then(b8 e0 (mpA d b L x_2) j).ob else e8 [(b8 e0 E (b8 b L x_2).toNat).ob] (j - x_2))=(b8 e0 (mpA d b L x_3) j).ob)∧(∀(j:Nat),j < x_3→(bif j.blt x_2 then(b8 e0 (mpA d b L x_2) j).mu else e8 [(b8 e0 E (b8 b L x_2).toNat).mu] (j - x_2))=(b8 e0 (mpA d b L x_3) j).mu)∧(∀(j:Nat),j < x_3→(bif j.blt x_2 then(b8 e0 (mpA d b L x_2) j).en else e8 [(b8 e0 E (b8 b L x_2).toNat).en] (j - x_2))=(b8 e0 (mpA d b L x_3) j).en)∧(∀(j:Nat),j < x_3→(bif j.blt x_2 then(b8 e0 (mpA d b L x_2) j).od else e8 [(b8 e0 E (b8 b L x_2).toNat).od] (j - x_2))=(b8 e0 (mpA d b L x_3) j).od)∧(∀(j:Nat),j < x_3→(bif j.blt x_2 then(b8 e0 (mpA d b L x_2) j).rd else e8 [(b8 e0 E (b8 b L x_2).toNat).rd] (j - x_2))=(b8 e0 (mpA d b L x_3) j).rd)∧(∀(j:Nat),j < x_3→(bif j.blt x_2 then(b8 e0 (mpA d b L x_2) j).wr else e8 [(b8 e0 E (b8 b L x_2).toNat).wr] (j - x_2))=(b8 e0 (mpA d b L x_3) j).wr)∧True)∧(x_2 + g=x_3∧(∀(j:Nat),j < x_3→(bif j.blt x_2
 then b8 b (mpA (fun(i:Int)=>toF L (inA R i)) b L x_2) j else e8 [a10 (a5j toB L x_1 (b8 b R (b8 b L x_2).toNat))] (j - x_2))=b8 b (mpA (fun(i:Int)=>toF L (inA R i)) b L x_3) j)∧True)∧eqA f (l4 [])∧True)∧(decide ((↑x_2:Int) < c)=false→∃(x:PUnit),(∃(x:Nat),(x≤M.length∧True)∧(b=(↑x:Int)∧True)∧(x_2=L.length∧x_2=L.length∧f=x)∧(f=x∧((∀(j:Nat),j < x→(b8 ([]:List Int) [] j).length=(b8 [] (mpA (fun(q:List Int)=>List.map m q) [] M x) j).length)∧(∀(j:Nat),j < x→∀(i:Nat),i < (b8 [] (mpA (fun(q:List Int)=>List.map m q) [] M x) j).length→b8 b (b8 ([]:List Int) [] j) i=b8 b (b8 [] (mpA (fun(q:List Int)=>List.map m q) [] M x) j) i)∧True)∧True)∧True)∧∀(x_3:Nat),x_3≤M.length∧True→(decide ((↑x_3:Int) < h)=true→(b≤(↑x_3:Int)∧(↑x_3:Int) < h)∧x_3 < M.length∧∃(x_4:Nat),(∃(x:Nat),(x≤(a18 M x_4).length∧x_4 < M.length)∧(b=(↑x:Int)∧f=x∧True)∧(f=x∧x=f∧True)∧True)∧∀(x_5:Nat),x_5≤(a18 M x_4).length∧x_4 < M.length→(decide ((↑x_5:Int) < (↑(b8 [] M x_3).length:Int))=true→(b≤(↑x_5:Int)∧(↑x_5:Int) < (↑(b8 [] M x_3).length:Int))∧x_5 < (b8 [] M x_3).length∧x_5=x_5∧g=g∧(x_5 + g) * (8:Nat)≤p∧x_5 + g≤l∧∃(x:Nat),(x≤(a18 M x_4).length∧x_4 < M.length)∧(t.ann x_4).mu x < (t.ann x_4).mu x_5∧(a∧L.length=L.length∧True∧True∧True∧True∧(b8 [] M x_3).length=(b8 [] M x_3).length∧x_5 + g=x∧True∧True∧L.length=L.length∧c=c∧(↑x_1:Int)=(↑x_1:Int)∧false=false∧L.length=L.length∧c=c∧(↑x_2:Int)=(↑x_2:Int)∧false=false∧True∧M.length=M.length∧h=h∧(↑x_3:Int)=(↑x_3:Int)∧true=true∧x_3=x_3∧(b8 [] M x_3).length=(b8 [] M x_3).length∧(b8 [] M
 x_3).length=(b8 [] M x_3).length∧(↑(b8 [] M x_3).length:Int)=(↑(b8 [] M x_3).length:Int)∧IntKind.i64.wrap ((↑x_5:Int) + (1:Int))=(↑x:Int)∧True)∧eqA E.length (g9 E)∧eqA R.length (j6 R)∧eqA M.length (l4 M)∧eqA L.length (j6 L)∧a∧r∧(∀(x:Int),a5j toB L x_1 x=a5j toB L x_1 x)∧(L.length=L.length∧L.length=L.length∧x_3=x_3)∧eqA x_2 (g9 (mpA d b L x_2))∧eqA x_2 (j6 (mpA (fun(i:Int)=>toF L (inA R i)) b L x_2))∧eqA x_3 (l4 (mpA (fun(q:List Int)=>List.map m q) [] M x_3))∧eqA (b8 [] M x_3).length [Col.int IntKind.i64 fun(i:Nat)=>b8 b (b8 [] M x_3) i]∧(x_5 + g=x∧(∀(j:Nat),j < x→(bif j.blt x_5 then b8 b (mpA m b (a18 M x_4) x_5) j else e8 [a10 (a5j toB L x_1 (b8 b (b8 [] M x_3) x_5))] (j - x_5))=b8 b (mpA m b (a18 M x_4) x) j)∧True)∧True)∧(decide ((↑x_5:Int) < (↑(b8 [] M x_3).length:Int))=false→x_5=x_5∧x_3=x_3∧g=g∧(x_3 + g) * (24:Nat)≤p∧x_3 + g≤l∧∃(x_6:Nat),(x_6≤M.length∧True)∧(o.ann x).mu x_6 < (o.ann x).mu x_3∧(a∧L.length=L.length∧True∧True∧True∧True∧True∧True∧L.length=L.length∧c=c∧(↑x_1:Int)=(↑x_1:Int)∧false=false∧L.length=L.length∧c=c∧(↑x_2:Int)=(↑x_2:Int)∧false=false∧True∧M.length=M.length∧h=h∧IntKind.i64.wrap ((↑x_3:Int) + (1:Int))=(↑x_6:Int)∧True)∧eqA E.length (g9 E)∧eqA R.length (j6 R)∧eqA M.length (l4 M)∧eqA L.length (j6 L)∧a∧r∧(∀(x:Int),a5j toB L x_1 x=a5j toB L x_1 x)∧(L.length=L.length∧L.length=L.length∧x_3 + g=x_6)∧eqA x_2 (g9 (mpA d b L x_2))∧eqA x_2 (j6 (mpA (fun(i:Int)=>toF L (inA R i)) b L x_2))∧(x_3 + g=x_6∧((∀(j:Nat),j < x_6→(bif j.blt x_3 then(b8 [] (mpA (fun(q:List
 Int)=>List.map m q) [] M x_3) j).length else x_5)=(b8 [] (mpA (fun(q:List Int)=>List.map m q) [] M x_6) j).length)∧(∀(j:Nat),j < x_6→∀(i:Nat),i < (b8 [] (mpA (fun(q:List Int)=>List.map m q) [] M x_6) j).length→(bif j.blt x_3 then fun(i:Nat)=>b8 b (b8 [] (mpA (fun(q:List Int)=>List.map m q) [] M x_3) j) i else b8 b (mpA m b (a18 M x_4) x_5)) i=b8 b (b8 [] (mpA (fun(q:List Int)=>List.map m q) [] M x_6) j) i)∧True)∧True)∧True))∧(decide ((↑x_3:Int) < h)=false→(L.length=e.length∧x_2=e.length∧(∀(j:Nat),j < e.length→(b8 e0 (mpA d b L x_2) j).ag=(b8 e0 e j).ag)∧(∀(j:Nat),j < e.length→(b8 e0 (mpA d b L x_2) j).ix=(b8 e0 e j).ix)∧(∀(j:Nat),j < e.length→(b8 e0 (mpA d b L x_2) j).k=(b8 e0 e j).k)∧(∀(j:Nat),j < e.length→(b8 e0 (mpA d b L x_2) j).ob=(b8 e0 e j).ob)∧(∀(j:Nat),j < e.length→(b8 e0 (mpA d b L x_2) j).mu=(b8 e0 e j).mu)∧(∀(j:Nat),j < e.length→(b8 e0 (mpA d b L x_2) j).en=(b8 e0 e j).en)∧(∀(j:Nat),j < e.length→(b8 e0 (mpA d b L x_2) j).od=(b8 e0 e j).od)∧(∀(j:Nat),j < e.length→(b8 e0 (mpA d b L x_2) j).rd=(b8 e0 e j).rd)∧(∀(j:Nat),j < e.length→(b8 e0 (mpA d b L x_2) j).wr=(b8 e0 e j).wr)∧True)∧(L.length=(arR R L).length∧x_2=(arR R L).length∧(∀(j:Nat),j < (arR R L).length→b8 b (mpA (fun(i:Int)=>toF L (inA R i)) b L x_2) j=b8 b (arR R L) j)∧True)∧x_3=s.length∧x_3=s.length∧((∀(j:Nat),j < s.length→(b8 [] (mpA (fun(q:List Int)=>List.map m q) [] M x_3) j).length=(b8 [] s j).length)∧(∀(j:Nat),j < s.length→∀(i:Nat),i < (b8 [] s j).length→b8 b (b8 [] (mpA (fun(q:List Int)=>List.map m q)
 [] M x_3) j) i=b8 b (b8 [] s j) i)∧True)∧True)))):=by kernel_rfl
theorem v65 (E:List Ev) (R:List Int) (M:List (List Int)) (L:List Int) (h:pcA E R M L):q65D E R M L:=by
 rw[d5r]
 obtain⟨⟨hL,hR,hM⟩,hS,hO⟩:=h
 have hrow:∀ o,o < M.length→(b8 [] M o).length≤1099511627776:=fun o ho=>hS _ (by rw[s9 [] M _ ho]; exact z2r ho)
 have hin:∀ j,j < L.length→0≤b8 0 L j∧b8 0 L j < E.length:=fun j hj=>hO _ (by rw[s9 0 L _ hj]; exact z2r hj)
 simp only[eq_self,true_and,and_true,z0p,imp_self,m5,n5,o0,g8,i9,PLoop.of,s5,AV.len,j5,z0v,j8,l5,l6,m6,m7,m8,lA1,lA2,lA3,lA4]
 refine⟨(),⟨0,by omega,rfl,fun _=>rfl⟩,fun j hj=>⟨fun hlj=>?_,fun hlj=>?_⟩⟩
 ·have hj2:j < L.length:=by have:=z0e hlj; omega
  exact⟨⟨by omega,by omega⟩,hj2,j + 1,by omega,by omega,wrS (n:=L.length) hj2 (by omega),fun _=>rfl⟩
 have hj2:j=L.length:=by have:=z0l hlj; omega
 subst hj2
 refine⟨(),⟨0,by simp⟩,fun p hp=>⟨fun hlp=>?_,fun hlp=>?_⟩⟩
 ·have hp2:p < L.length:=by have:=z0e hlp; omega
  have hi:=hin p hp2
  refine⟨⟨by omega,by omega⟩,hp2,hi,by omega,by omega,by omega,by omega,by omega,by omega,by omega,p + 1,by omega,by omega,wrS (n:=L.length) hp2 (by omega),⟨rfl,rfl⟩,⟨rfl,a53 Ev.ag rfl,a53 Ev.ix rfl,a53 Ev.k rfl,a53 Ev.ob rfl,a53 Ev.mu rfl,a53 Ev.en rfl,a53 Ev.od rfl,a53 Ev.rd rfl,a53 Ev.wr rfl⟩,rfl,c6j rfl⟩
 have hp2:p=L.length:=by have:=z0l hlp; omega
 subst hp2
 refine⟨(),⟨0,by simp⟩,fun o ho=>⟨fun hlo=>?_,fun hlo=>?_⟩⟩
 ·have ho2:o < M.length:=by have:=z0e hlo; omega
  have hro:=hrow o ho2
  have hx:a18 M o=b8 [] M o:=rfl
  refine⟨⟨by omega,by omega⟩,ho2,o,⟨0,by simp[ho2]⟩,fun q hq=>⟨fun hlq=>?_,fun hlq=>?_⟩⟩
  ·have hq2:q < (b8 [] M o).length:=by have:=z0e hlq; omega
   exact⟨⟨by omega,by omega⟩,hq2,by omega,by omega,q + 1,⟨by rw[hx]; omega,ho2⟩,by rw[hx]; omega,⟨rfl,wrS (n:=(b8 [] M o).length) hq2 hro⟩,rfl,c6j rfl⟩
  ·have hq2:q=(b8 [] M o).length:=by have:=z0l hlq; have:=hq.1; rw[hx] at this; omega
   have e:mpA (toF L) 0 (a18 M o) q=(b8 [] M o).map (toF L):=by rw[hq2,← hx,b1q]
   rw[e]
   refine⟨by omega,by omega,o + 1,by omega,by omega,wrS (n:=M.length) ho2 (by omega),rfl,rfl,fun j hj=>?_,fun j hj i _=>?_⟩
   ·cases hb:Nat.blt j o
    ·obtain rfl:=a5u hb hj
     rw[z0m,c6i,List.length_map,hq2]
    ·rw[z0f,c6k (by rwa [z0u] at hb)]
   ·cases hb:Nat.blt j o
    ·obtain rfl:=a5u hb hj
     rw[z0m,c6i]
    ·rw[z0f,c6k (by rwa [z0u] at hb)]
 have ho2:o=M.length:=by have:=z0l hlo; omega
 subst ho2
 have e1:mpA (evA E) 0 L L.length=arE E L:=b1q _ _ _
 have e2:mpA (fun i=>toF L (inA R i)) 0 L L.length=arR R L:=b1q _ _ _
 have e3:mpA (fun q:List Int=>q.map (toF L)) [] M M.length=arM M L:=b1q _ _ _
 rw[e1,e2,e3]
 have l1:L.length=(arE E L).length:=by simp[arE]
 have l2:L.length=(arR R L).length:=by simp[arR]
 have l3:M.length=(arM M L).length:=by simp[arM]
 simp only[z0p,and_true,true_and]
 exact⟨⟨l1,l1⟩,⟨l2,l2⟩,l3,l3⟩
theorem n65 (nm:List (Option AV)):CallOk Tryz.prog [] 65 (n8 EL none nm [PG,.lf .is] d3z):=y5 Tryz.func65 fo65 fun av pre rv h=>by
 unfold d3z at h; split at h <;> cases h
 exact⟨⟨rfl,fun t a e=>by cases e <;> exact z0k _ _⟩,fun hp=>⟨_,v65 _ _ _ _ (hp _ (.head _)),rfl,v4,v5⟩⟩
def a8y (l:List Int) (x:Int):Bool:=decide (a75 l x ≥ 0)
def d48:SpP:=fun | [.lf (.is l),.lf (.i x)]=>some ([L40 l.length],plB (a8y l x)) | _=>none
def kCon (nm:List (Option AV)):Nat × (List MBlk→List SV→Option AR):=(64,n8 EL none nm [.lf .is,.lf .i] d48)
def a5s (P:List Pq) (L:List Int) (k:Int):Nat→Int
 | 0=>0
 | j + 1=>bif (b8 (0,0) P j).2 == k && !L.contains (b8 (0,0) P j).1 then a5s P L k j + 1 else a5s P L k j
def a5t (P:List Pq) (b k:Int):Nat→Int
 | 0=>0
 | j + 1=>bif (b8 (0,0) P j).2 == k && (b8 (0,0) P j).1 == b then a5t P b k j + 1 else a5t P b k j
def wtL (P:List Pq) (L:List Int) (k:Int):Int:=a5s P L k P.length
def p8 (c:Int→Bool) (E:List Ev):Nat→Int
 | 0=>-1
 | i + 1=>bif c i && (decide (p8 c E i < 0) || decide ((evA E i).ag < (evA E (p8 c E i)).ag)) then(i:Int) else p8 c E i
def y6 (P:List Pq) (L:List Int) (i:Int):Bool:=wtL P L i == 0 && !a8y L i
def n6 (P:List Pq) (E:List Ev):Nat→List Int
 | 0=>[]
 | s + 1=>n6 P E s ++ [p8 (y6 P (n6 P E s)) E E.length]
theorem a4f (P:List Pq) (E:List Ev):∀ s,(n6 P E s).length=s:=by
 intro s
 induction s with
 | zero=>rfl
 | succ s ih=>simp[n6,ih]
def d7 (E:List Ev) (R:List Int) (M:List (List Int)):List Pq:=b9 E.length (wF (e9 (o5 (a0g E.length (poG E R M) (rfG E R M) (f9 E R M)) (a0g E.length (poG E R M) (rfG E R M) (f9 E R M)).length)) E.length)
def d4e (E:List Ev) (R:List Int) (M:List (List Int)):SpG:=fun
 | [.lf (.i n),.lf (.rl l)]=>some ([(n=E.length∧E.length≤64)∧l=a0g E.length (poG E R M) (rfG E R M) (f9 E R M)],b1l E.length (d7 E R M))
 | _=>none
def kPre (E:List Ev) (R:List Int) (M:List (List Int)):Nat × (List MBlk→List SV→Option AR):=(54,n8 EL none [] [.lf .i,.lf .rl] (d4e E R M))
def b4e (n:Nat) (P:List Pq):Bool:=a28 n (wF (e9 P) n)
def i5 {α:Type} (b:Bool) (l:List α):List α:=bif b then l else []
def o6 (E:List Ev) (R:List Int) (M:List (List Int)):Bool:=d6 E R M && b4e E.length (d7 E R M)
def a3b (E:List Ev) (R:List Int) (M:List (List Int)):Int:=bif d6 E R M then(bif b4e E.length (d7 E R M) then 0 else 20) else 1
def v8 (E:List Ev) (R:List Int) (M:List (List Int)):List Int:=n6 (d7 E R M) E E.length
def norV (E:List Ev) (R:List Int) (M:List (List Int)):QV:=.gr (some (a3b E R M)) (i5 (o6 E R M) (arE E (v8 E R M))) (i5 (o6 E R M) (arR R (v8 E R M))) (i5 (o6 E R M) (arM M (v8 E R M)))
def c83:SpG:=fun
 | [.ag [.es E,.is R,.rs M]]=>some ([SzG E M],norV E R M)
 | _=>none
def d7r (nm:List (Option AV)):Nat × (List MBlk→List SV→Option AR):=(20,n8 EL gbT nm [PG] c83)
def d7u (d z:Nat):List Slot→List MBlk→List Gh:=fun sl m=>match nth sl d with
 | some ⟨_,.ptr c 0⟩=>(match nth m c with
  | some (.cells [_,.sl q _])=>[.mv (z - c - q),.mv q,.mv c]
  | _=>[])
 | _=>[]
def lN1 (n:Nat) (P:List Pq) (t w:Nat):LAnn:=s5 P.length t (fun _=>True) (fun j=>[(w,.oarr 3 n [.int .i64 (fun k=>a5s P [] k j)])]) []
def lN2 (E:List Ev) (P:List Pq) (t o w:Nat):LAnn where
 X:=Nat
 inv:=fun s=>s≤E.length∧∀ i∈n6 P E s,0≤i∧i < E.length
 slots:=fun s=>[(t,.sl o s)]
 mem:=fun s=>[(o,.oarr 3 s (j6 (n6 P E s))),(w,.oarr 3 E.length [.int .i64 (fun k=>wtL P (n6 P E s) k)])]
 mu:=fun s=>E.length - s
 kill:=[o]
def lN3 (E:List Ev) (P:List Pq) (t b:Nat):PLoop:=⟨Nat,fun s=>{ X:=Nat,inv:=fun i=>i≤E.length∧s < E.length,slots:=fun i=>[(t,.i .i64 (i:Int)),(b,.i .i64 (p8 (y6 P (n6 P E s)) E i))],mem:=fun _=>[],mu:=fun i=>E.length - i,kill:=[] }⟩
def lN4 (E:List Ev) (P:List Pq) (t w:Nat):PLoop:=⟨Nat,fun s=>s5 P.length t (fun _=>s < E.length) (fun j=>[(w,.oarr 3 E.length [.int .i64 (fun k=>wtL P (n6 P E s) k - a5t P (p8 (y6 P (n6 P E s)) E E.length) k j)])]) []⟩
end Go.Proofs.YtaeeaniofljmnaaGreatDoor

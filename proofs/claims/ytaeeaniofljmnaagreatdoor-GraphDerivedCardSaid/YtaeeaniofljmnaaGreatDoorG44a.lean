/-
  A part of the proof (G44a).
-/
import Derived.Test.YtaeeaniofljmnaaGreatDoorG40a
namespace Go.Proofs.YtaeeaniofljmnaaGreatDoor
set_option linter.unusedSimpArgs false
set_option linter.unusedVariables false
open Go Go.Proofs.YtaeeaniofljmnaaGreatDoor.Sx
set_option maxRecDepth 100000
theorem d90:o6 Tryz.prog 181:=⟨Tryz.f181,Tryz.func181,by kernel_rfl,by kernel_rfl⟩
def d3o (n:Int):Prop:=n7 (({}:Kit)).tab Tryz.f181 [.i .i64 n] [] (j9 (.b (a1l n)))
theorem c9s (n:Int):d3o n=((n != n)=a1l n):=by kernel_rfl
theorem v181 (n:Int) :d3o n:=by
 rw[c9s]
 first | simp[a1l] | (rw[a1l]; simp)
theorem n181 (nm:List (Option AV)):CallOk Tryz.prog [] 181 (o5 EL none nm [.lf .i] (sI1 a1l)):=x4 Tryz.func181 d90 fun av pre rv h=>by
 unfold sI1 at h; split at h <;> cases h
 exact⟨⟨rfl,fun t a e=>by cases e <;> exact z0h _ _⟩,fun hp=>⟨_,v181 _ ,rfl,t8,t9⟩⟩
theorem d7g:o6 Tryz.prog 182:=⟨Tryz.f182,Tryz.func182,by kernel_rfl,by kernel_rfl⟩
def d37 (n:Int):Prop:=n7 (({}:Kit)).tab Tryz.f182 [.i .i64 n] [] (j9 (.b (a1l n)))
theorem c9x (n:Int):d37 n=((n != n)=a1l n):=by kernel_rfl
theorem v182 (n:Int) :d37 n:=by
 rw[c9x]
 first | simp[a1l] | (rw[a1l]; simp)
theorem n182 (nm:List (Option AV)):CallOk Tryz.prog [] 182 (o5 EL none nm [.lf .i] (sI1 a1l)):=x4 Tryz.func182 d7g fun av pre rv h=>by
 unfold sI1 at h; split at h <;> cases h
 exact⟨⟨rfl,fun t a e=>by cases e <;> exact z0h _ _⟩,fun hp=>⟨_,v182 _ ,rfl,t8,t9⟩⟩
theorem d7r:o6 Tryz.prog 183:=⟨Tryz.f183,Tryz.func183,by kernel_rfl,by kernel_rfl⟩
def d3m (n:Int):Prop:=n7 (({}:Kit)).tab Tryz.f183 [.i .i64 n] [] (j9 (.b (a1l n)))
theorem d25 (n:Int):d3m n=((n != n)=a1l n):=by kernel_rfl
theorem v183 (n:Int) :d3m n:=by
 rw[d25]
 first | simp[a1l] | (rw[a1l]; simp)
theorem n183 (nm:List (Option AV)):CallOk Tryz.prog [] 183 (o5 EL none nm [.lf .i] (sI1 a1l)):=x4 Tryz.func183 d7r fun av pre rv h=>by
 unfold sI1 at h; split at h <;> cases h
 exact⟨⟨rfl,fun t a e=>by cases e <;> exact z0h _ _⟩,fun hp=>⟨_,v183 _ ,rfl,t8,t9⟩⟩
theorem d8l:o6 Tryz.prog 141:=⟨Tryz.f141,Tryz.func141,by kernel_rfl,by kernel_rfl⟩
def d3q (a b:Int):Prop:=n7 (({ calls:=[kI1 181 a1l] }:Kit)).tab Tryz.f141 [.i .i64 a,.i .i64 b] [] (j9 (.i .i64 (o7 a b)))
theorem d1y (a b:Int):d3q a b=((a1l a=true→(a1l b=true→(0:Int)=o7 a b)∧(a1l b=false→(-1:Int)=o7 a b))∧(a1l a=false→(a1l b=true→(1:Int)=o7 a b)∧(a1l b=false→(decide (a < b)=true→(-1:Int)=o7 a b)∧(decide (a < b)=false→(decide (a > b)=true→(1:Int)=o7 a b)∧(decide (a > b)=false→(0:Int)=o7 a b))))):=by kernel_rfl
theorem v141 (a b:Int) :d3q a b:=by
 rw[d1y]
 simp only[o7,a1l]; grind
theorem n141 (nm:List (Option AV)):CallOk Tryz.prog [] 141 (o5 EL none nm [.lf .i,.lf .i] c1b):=x4 Tryz.func141 d8l fun av pre rv h=>by
 unfold c1b at h; split at h <;> cases h
 exact⟨⟨rfl,fun t a e=>by cases e <;> exact z0h _ _⟩,fun hp=>⟨_,v141 _ _ ,rfl,(m6 (n181 _) t8),t9⟩⟩
theorem d87:o6 Tryz.prog 142:=⟨Tryz.f142,Tryz.func142,by kernel_rfl,by kernel_rfl⟩
def d43 (a b:Int):Prop:=n7 (({ calls:=[kI1 182 a1l] }:Kit)).tab Tryz.f142 [.i .i64 a,.i .i64 b] [] (j9 (.i .i64 (o7 a b)))
theorem d0w (a b:Int):d43 a b=((a1l a=true→(a1l b=true→(0:Int)=o7 a b)∧(a1l b=false→(-1:Int)=o7 a b))∧(a1l a=false→(a1l b=true→(1:Int)=o7 a b)∧(a1l b=false→(decide (a < b)=true→(-1:Int)=o7 a b)∧(decide (a < b)=false→(decide (a > b)=true→(1:Int)=o7 a b)∧(decide (a > b)=false→(0:Int)=o7 a b))))):=by kernel_rfl
theorem v142 (a b:Int) :d43 a b:=by
 rw[d0w]
 simp only[o7,a1l]; grind
theorem n142 (nm:List (Option AV)):CallOk Tryz.prog [] 142 (o5 EL none nm [.lf .i,.lf .i] c1b):=x4 Tryz.func142 d87 fun av pre rv h=>by
 unfold c1b at h; split at h <;> cases h
 exact⟨⟨rfl,fun t a e=>by cases e <;> exact z0h _ _⟩,fun hp=>⟨_,v142 _ _ ,rfl,(m6 (n182 _) t8),t9⟩⟩
theorem d88:o6 Tryz.prog 143:=⟨Tryz.f143,Tryz.func143,by kernel_rfl,by kernel_rfl⟩
def d42 (a b:Int):Prop:=n7 (({ calls:=[kI1 183 a1l] }:Kit)).tab Tryz.f143 [.i .i64 a,.i .i64 b] [] (j9 (.i .i64 (o7 a b)))
theorem d2f (a b:Int):d42 a b=((a1l a=true→(a1l b=true→(0:Int)=o7 a b)∧(a1l b=false→(-1:Int)=o7 a b))∧(a1l a=false→(a1l b=true→(1:Int)=o7 a b)∧(a1l b=false→(decide (a < b)=true→(-1:Int)=o7 a b)∧(decide (a < b)=false→(decide (a > b)=true→(1:Int)=o7 a b)∧(decide (a > b)=false→(0:Int)=o7 a b))))):=by kernel_rfl
theorem v143 (a b:Int) :d42 a b:=by
 rw[d2f]
 simp only[o7,a1l]; grind
theorem n143 (nm:List (Option AV)):CallOk Tryz.prog [] 143 (o5 EL none nm [.lf .i,.lf .i] c1b):=x4 Tryz.func143 d88 fun av pre rv h=>by
 unfold c1b at h; split at h <;> cases h
 exact⟨⟨rfl,fun t a e=>by cases e <;> exact z0h _ _⟩,fun hp=>⟨_,v143 _ _ ,rfl,(m6 (n183 _) t8),t9⟩⟩
theorem fo96:o6 Tryz.prog 96:=⟨Tryz.f96,Tryz.func96,by kernel_rfl,by kernel_rfl⟩
def q96D (l:List Int):Prop:=n7 (({ loops:=[(0,.of (lOr l 8))] }:Kit)).tab Tryz.f96 [.sl 0 l.length] [.arr l.length (i9 l)] (j9 (.i .i64 (orF l)))
theorem d57 (l:List Int):q96D l=(∃(x:PUnit),(∃(x:Nat),(x≤l.length∧∀(q:Nat),q < x→b6 (0:Int) l q=(0:Int))∧((0:Int)=(↑x:Int)∧True)∧True)∧∀(x_1:Nat),(x_1≤l.length∧∀(q:Nat),q < x_1→b6 (0:Int) l q=(0:Int))→(decide ((↑x_1:Int) < (↑l.length:Int))=true→((0:Int)≤(↑x_1:Int)∧(↑x_1:Int) < (↑l.length:Int))∧x_1 < l.length∧((b6 (0:Int) l x_1 != (0:Int))=true→b6 (0:Int) l x_1=orF l)∧((b6 (0:Int) l x_1 != (0:Int))=false→∃(x_2:Nat),(x_2≤l.length∧∀(q:Nat),q < x_2→b6 (0:Int) l q=(0:Int))∧((PLoop.of (lOr l (8:Nat))).ann x).mu x_2 < ((PLoop.of (lOr l (8:Nat))).ann x).mu x_1∧(l.length=l.length∧(0:Int)=(0:Int)∧l.length=l.length∧(↑l.length:Int)=(↑l.length:Int)∧IntKind.i64.wrap ((↑x_1:Int) + (1:Int))=(↑x_2:Int)∧True)∧eqA l.length (i9 l)∧True))∧(decide ((↑x_1:Int) < (↑l.length:Int))=false→(0:Int)=orF l)):=by kernel_rfl
theorem v96 (l:List Int) (h:L40 l.length):q96D l:=by
 rw[d57]
 simp only[eq_self,true_and,and_true,z0n,imp_self,l7,l8,n6,g7,g9,PLoop.of,p9,AV.len,i5,z0s,j4,j7,j6,l9,m4,m5,lOr]
 refine⟨(),⟨0,⟨by omega,fun q hq=>absurd hq (z2o _)⟩,rfl⟩,fun j hj=>⟨fun hlt=>?_,fun hlt=>?_⟩⟩
 ·have h1:j < l.length:=by have:=z0e hlt; omega
  refine⟨⟨by omega,by omega⟩,h1,fun he=>?_,fun he=>⟨j + 1,⟨by omega,fun q hq=>?_⟩,by omega,wrS (n:=l.length) h1 h⟩⟩
  ·exact(d0v hj.2 h1 (by simpa using he)).symm
  ·by_cases e:q=j
   ·subst e; simpa using he
   ·exact hj.2 q (by omega)
 ·have h1:j=l.length:=by have:=z0m hlt; omega
  subst h1
  exact(c6b hj.2).symm
theorem n96 (nm:List (Option AV)):CallOk Tryz.prog [] 96 (o5 EL none nm [.lf .is] sOr):=x4 Tryz.func96 fo96 fun av pre rv h=>by
 unfold sOr at h; split at h <;> cases h
 exact⟨⟨rfl,fun t a e=>by cases e <;> exact z0h _ _⟩,fun hp=>⟨_,v96 _ (hp _ (.head _)),rfl,t8,t9⟩⟩
theorem fo98:o6 Tryz.prog 98:=⟨Tryz.f98,Tryz.func98,by kernel_rfl,by kernel_rfl⟩
def q98D (a b:Ev):Prop:=n7 (({ calls:=[d2n 141,d2n 142,d2n 143,kOr (no 2 ++ [some (.is [o7 a.ag b.ag,o7 a.ix b.ix,o7 a.k b.k,o7 a.ob b.ob,o7 a.mu b.mu,o7 a.en b.en,o7 a.od b.od,o7 a.rd b.rd,o7 a.wr b.wr])])] }:Kit)).tab Tryz.f98 [a5y a,a5y b] [] (j9 (.i .i64 (a5r a b)))
theorem d6a (a b:Ev):q98D a b=((9:Nat)=(9:Nat)∧mkN (e8 [o7 a.ag b.ag,o7 a.ix b.ix,o7 a.k b.k,o7 a.ob b.ob,o7 a.mu b.mu,o7 a.en b.en,o7 a.od b.od,o7 a.rd b.rd,o7 a.wr b.wr]) (9:Nat)=[o7 a.ag b.ag,o7 a.ix b.ix,o7 a.k b.k,o7 a.ob b.ob,o7 a.mu b.mu,o7 a.en b.en,o7 a.od b.od,o7 a.rd b.rd,o7 a.wr b.wr]∧[o7 a.ag b.ag,o7 a.ix b.ix,o7 a.k b.k,o7 a.ob b.ob,o7 a.mu b.mu,o7 a.en b.en,o7 a.od b.od,o7 a.rd b.rd,o7 a.wr b.wr].length≤(1099511627776:Nat)∧orF [o7 a.ag b.ag,o7 a.ix b.ix,o7 a.k b.k,o7 a.ob b.ob,o7 a.mu b.mu,o7 a.en b.en,o7 a.od b.od,o7 a.rd b.rd,o7 a.wr b.wr]=a5r a b):=by kernel_rfl
theorem v98 (a b:Ev) :q98D a b:=by
 rw[d6a]
 simp only[eq_self,true_and,and_true,z0n,imp_self,l7,l8,n6,g7,g9,PLoop.of,p9,AV.len,i5,z0s,j4,j7,j6,l9,m4,m5]
 exact⟨rfl,by simp,rfl⟩
theorem n98 (nm:List (Option AV)):CallOk Tryz.prog [] 98 (o5 EL none nm [.lf .ev,.lf .ev] d6z):=x4 Tryz.func98 fo98 fun av pre rv h=>by
 unfold d6z at h; split at h <;> cases h
 exact⟨⟨rfl,fun t a e=>by cases e <;> exact z0h _ _⟩,fun hp=>⟨_,v98 _ _ ,rfl,(m6 (n141 _) (m6 (n142 _) (m6 (n143 _) (m6 (n96 _) t8)))),t9⟩⟩
theorem fo99:o6 Tryz.prog 99:=⟨Tryz.f99,Tryz.func99,by kernel_rfl,by kernel_rfl⟩
def q99D (l m:List Int):Prop:=n7 (({ calls:=[d2n 141],loops:=[(0,.of (b8v o7 0 l m 11))] }:Kit)).tab Tryz.f99 [.sl 0 l.length,.sl 1 m.length] [.arr l.length (i9 l),.arr m.length (i9 m)] (j9 (.i .i64 (z8 o7 l m)))
theorem d63 (l m:List Int):q99D l m=(∃(x:PUnit),(∃(x:Nat),(x≤l.length∧x≤m.length∧∀(q:Nat),q < x→o7 (b6 (0:Int) l q) (b6 (0:Int) m q)=(0:Int))∧((0:Int)=(↑x:Int)∧True)∧True)∧∀(x_1:Nat),(x_1≤l.length∧x_1≤m.length∧∀(q:Nat),q < x_1→o7 (b6 (0:Int) l q) (b6 (0:Int) m q)=(0:Int))→(decide ((↑x_1:Int) < (↑l.length:Int))=true→((0:Int)≤(↑x_1:Int)∧(↑x_1:Int) < (↑l.length:Int))∧x_1 < l.length∧(decide ((↑x_1:Int) ≥ (↑m.length:Int))=true→(1:Int)=z8 o7 l m)∧(decide ((↑x_1:Int) ≥ (↑m.length:Int))=false→((0:Int)≤(↑x_1:Int)∧(↑x_1:Int) < (↑m.length:Int))∧x_1 < m.length∧((o7 (b6 (0:Int) l x_1) (b6 (0:Int) m x_1) != (0:Int))=true→o7 (b6 (0:Int) l x_1) (b6 (0:Int) m x_1)=z8 o7 l m)∧((o7 (b6 (0:Int) l x_1) (b6 (0:Int) m x_1) != (0:Int))=false→∃(x_2:Nat),(x_2≤l.length∧x_2≤m.length∧∀(q:Nat),q < x_2→o7 (b6 (0:Int) l q) (b6 (0:Int) m q)=(0:Int))∧((PLoop.of (b8v o7 (0:Int) l m (11:Nat))).ann x).mu x_2 < ((PLoop.of (b8v o7 (0:Int) l m (11:Nat))).ann x).mu x_1∧(l.length=l.length∧m.length=m.length∧l.length=l.length∧(↑l.length:Int)=(↑l.length:Int)∧IntKind.i64.wrap ((↑x_1:Int) + (1:Int))=(↑x_2:Int)∧True)∧eqA l.length (i9 l)∧eqA m.length (i9 m)∧True)))∧(decide ((↑x_1:Int) < (↑l.length:Int))=false→(decide ((↑l.length:Int) < (↑m.length:Int)) =
 true→(-1:Int)=z8 o7 l m)∧(decide ((↑l.length:Int) < (↑m.length:Int))=false→(0:Int)=z8 o7 l m))):=by kernel_rfl
theorem v99 (l m:List Int) (h:L40 l.length):q99D l m:=by
 rw[d63]
 simp only[eq_self,true_and,and_true,z0n,imp_self,l7,l8,n6,g7,g9,PLoop.of,p9,AV.len,i5,z0s,j4,j7,j6,l9,m4,m5,b8v]
 refine⟨(),⟨0,⟨by omega,by omega,fun q hq=>absurd hq (z2o _)⟩,rfl⟩,fun j hj=>⟨fun hlt=>?_,fun hlt=>?_⟩⟩
 ·have h1:j < l.length:=by have:=z0e hlt; omega
  refine⟨⟨by omega,by omega⟩,h1,fun hm=>?_,fun hm=>?_⟩
  ·have h2:j=m.length:=by have:=z0e hm; omega
   subst h2
   rw[a9e (d:=(0:Int)) fun q _ h=>hj.2.2 q h]
   have:decide (m.length < l.length)=true:=by simp; omega
   rw[this]; rfl
  have h2:j < m.length:=by have:=z0m hm; omega
  refine⟨⟨by omega,by omega⟩,h2,fun he=>?_,fun he=>⟨j + 1,⟨by omega,by omega,fun q hq=>?_⟩,by omega,wrS (n:=l.length) h1 h⟩⟩
  ·exact(b8g (d:=(0:Int)) hj.2.2 h1 h2 (by simpa using he)).symm
  ·by_cases e:q=j
   ·subst e; simpa using he
   ·exact hj.2.2 q (by omega)
 ·have h1:j=l.length:=by have:=z0m hlt; omega
  subst h1
  rw[a9e (d:=(0:Int)) fun q h _=>hj.2.2 q h]
  have h3:decide (m.length < l.length)=false:=by have:=hj.2.1; simp; omega
  rw[h3,z0l]
  refine⟨fun h4=>?_,fun h4=>?_⟩
  ·have:decide (l.length < m.length)=true:=by have:=z0e h4; simp; omega
   rw[this]; rfl
  ·have:decide (l.length < m.length)=false:=by have:=z0m h4; simp; omega
   rw[this]; rfl
theorem n99 (nm:List (Option AV)):CallOk Tryz.prog [] 99 (o5 EL none nm [.lf .is,.lf .is] d61):=x4 Tryz.func99 fo99 fun av pre rv h=>by
 unfold d61 at h; split at h <;> cases h
 exact⟨⟨rfl,fun t a e=>by cases e <;> exact z0h _ _⟩,fun hp=>⟨_,v99 _ _ (hp _ (.head _)),rfl,(m6 (n141 _) t8),t9⟩⟩
theorem fo97:o6 Tryz.prog 97:=⟨Tryz.f97,Tryz.func97,by kernel_rfl,by kernel_rfl⟩
def q97D (l m:List Ev):Prop:=n7 (({ calls:=[kCmE],loops:=[(0,.of (b8v a5r e0 l m 13))] }:Kit)).tab Tryz.f97 [.sl 0 l.length,.sl 1 m.length,.fn 98 []] [.arr l.length (l5 l),.arr m.length (l5 m)] (j9 (.i .i64 (z8 a5r l m)))
theorem d75 (l m:List Ev):q97D l m=(∃(x:PUnit),(∃(x:Nat),(x≤l.length∧x≤m.length∧∀(q:Nat),q < x→a5r (b6 e0 l q) (b6 e0 m q)=(0:Int))∧((0:Int)=(↑x:Int)∧True)∧True)∧∀(x_1:Nat),(x_1≤l.length∧x_1≤m.length∧∀(q:Nat),q < x_1→a5r (b6 e0 l q) (b6 e0 m q)=(0:Int))→(decide ((↑x_1:Int) < (↑l.length:Int))=true→((0:Int)≤(↑x_1:Int)∧(↑x_1:Int) < (↑l.length:Int))∧x_1 < l.length∧(decide ((↑x_1:Int) ≥ (↑m.length:Int))=true→(1:Int)=z8 a5r l m)∧(decide ((↑x_1:Int) ≥ (↑m.length:Int))=false→((0:Int)≤(↑x_1:Int)∧(↑x_1:Int) < (↑m.length:Int))∧x_1 < m.length∧((a5r (b6 e0 l x_1) (b6 e0 m x_1) != (0:Int))=true→a5r (b6 e0 l x_1) (b6 e0 m x_1)=z8 a5r l m)∧((a5r (b6 e0 l x_1) (b6 e0 m x_1) != (0:Int))=false→∃(x_2:Nat),(x_2≤l.length∧x_2≤m.length∧∀(q:Nat),q < x_2→a5r (b6 e0 l q) (b6 e0 m q)=(0:Int))∧((PLoop.of (b8v a5r e0 l m (13:Nat))).ann x).mu x_2 < ((PLoop.of (b8v a5r e0 l m (13:Nat))).ann x).mu x_1∧(l.length=l.length∧m.length=m.length∧True∧l.length=l.length∧(↑l.length:Int)=(↑l.length:Int)∧IntKind.i64.wrap ((↑x_1:Int) + (1:Int))=(↑x_2:Int)∧True)∧eqA l.length (l5 l)∧eqA m.length (l5 m)∧True)))∧(decide ((↑x_1:Int) < (↑l.length:Int))=false→(decide ((↑l.length:Int) < (↑m.length:Int))=true→(-1:Int)=z8 a5r l m)∧(decide ((↑l.length:Int) < (↑m.length:Int))=false
 → (0:Int)=z8 a5r l m))):=by kernel_rfl
theorem v97 (l m:List Ev) (h:L40 l.length):q97D l m:=by
 rw[d75]
 simp only[eq_self,true_and,and_true,z0n,imp_self,l7,l8,n6,g7,g9,PLoop.of,p9,AV.len,i5,z0s,j4,j7,j6,l9,m4,m5,b8v]
 refine⟨(),⟨0,⟨by omega,by omega,fun q hq=>absurd hq (z2o _)⟩,rfl⟩,fun j hj=>⟨fun hlt=>?_,fun hlt=>?_⟩⟩
 ·have h1:j < l.length:=by have:=z0e hlt; omega
  refine⟨⟨by omega,by omega⟩,h1,fun hm=>?_,fun hm=>?_⟩
  ·have h2:j=m.length:=by have:=z0e hm; omega
   subst h2
   rw[a9e (d:=e0) fun q _ h=>hj.2.2 q h]
   have:decide (m.length < l.length)=true:=by simp; omega
   rw[this]; rfl
  have h2:j < m.length:=by have:=z0m hm; omega
  refine⟨⟨by omega,by omega⟩,h2,fun he=>?_,fun he=>⟨j + 1,⟨by omega,by omega,fun q hq=>?_⟩,by omega,wrS (n:=l.length) h1 h⟩⟩
  ·exact(b8g (d:=e0) hj.2.2 h1 h2 (by simpa using he)).symm
  ·by_cases e:q=j
   ·subst e; simpa using he
   ·exact hj.2.2 q (by omega)
 ·have h1:j=l.length:=by have:=z0m hlt; omega
  subst h1
  rw[a9e (d:=e0) fun q h _=>hj.2.2 q h]
  have h3:decide (m.length < l.length)=false:=by have:=hj.2.1; simp; omega
  rw[h3,z0l]
  refine⟨fun h4=>?_,fun h4=>?_⟩
  ·have:decide (l.length < m.length)=true:=by have:=z0e h4; simp; omega
   rw[this]; rfl
  ·have:decide (l.length < m.length)=false:=by have:=z0m h4; simp; omega
   rw[this]; rfl
theorem n97 (nm:List (Option AV)):CallOk Tryz.prog [] 97 (o5 EL none nm [.lf .es,.lf .es,.fc 98] d73):=x4 Tryz.func97 fo97 fun av pre rv h=>by
 unfold d73 at h; split at h <;> cases h
 exact⟨⟨rfl,fun t a e=>by cases e <;> exact z0h _ _⟩,fun hp=>⟨_,v97 _ _ (hp _ (.head _)),rfl,(m6 (n98 _) t8),t9⟩⟩
theorem nthD_out {α:Type} (d:α):∀ {l:List α} {j:Nat},l.length≤j→b6 d l j=d:=by
 intro l
 induction l with
 | nil=>intro j _; rfl
 | cons x r ih =>
  intro j h
  cases j with
  | zero=>simp at h
  | succ j=>exact ih (by simpa using h)
theorem fo92:o6 Tryz.prog 92:=⟨Tryz.f92,Tryz.func92,by kernel_rfl,by kernel_rfl⟩
def q92D (a b:List (List Int)):Prop:=n7 (({ calls:=[kCmL []],loops:=[(0,.of (b4p a b 14))] }:Kit)).tab Tryz.f92 [.sl 0 a.length,.sl 1 b.length] [.arr a.length (j8 a),.arr b.length (j8 b)] (j9 (.i .i64 (b3b a b)))
theorem d4z (a b:List (List Int)):q92D a b=(∃(x:PUnit),(∃(x:Nat),((x≤if b.length > a.length then b.length else a.length)∧a1y (fun(x:Nat)=>z8 o7 (a0h a x) (a0h b x)) x=(0:Int))∧((0:Int)=(↑x:Int)∧True)∧True)∧∀(x_1:Nat),(x_1≤if b.length > a.length then b.length else a.length)∧a1y (fun(x:Nat)=>z8 o7 (a0h a x) (a0h b x)) x_1=(0:Int)→(decide ((↑x_1:Int) < if (↑b.length:Int) > (↑a.length:Int) then(↑b.length:Int) else(↑a.length:Int))=true→(decide ((↑x_1:Int) < (↑a.length:Int))=true→((0:Int)≤(↑x_1:Int)∧(↑x_1:Int) < (↑a.length:Int))∧x_1 < a.length∧(decide ((↑x_1:Int) < (↑b.length:Int))=true→((0:Int)≤(↑x_1:Int)∧(↑x_1:Int) < (↑b.length:Int))∧x_1 < b.length∧(b6 [] a x_1).length=(b6 [] a x_1).length∧(b6 [] b x_1).length=(b6 [] b x_1).length∧(mkN (fun(i:Nat)=>b6 (0:Int) (b6 [] a x_1) i) (b6 [] a x_1).length).length≤(1099511627776:Nat)∧((z8 o7 (mkN (fun(i:Nat)=>b6 (0:Int) (b6 [] a x_1) i) (b6 [] a x_1).length) (mkN (fun(i:Nat)=>b6 (0:Int) (b6 [] b x_1) i) (b6 [] b x_1).length) != (0:Int))=true→z8 o7 (mkN (fun(i:Nat)=>b6 (0:Int) (b6 [] a x_1) i) (b6 [] a x_1).length) (mkN (fun(i:Nat)=>b6 (0:Int) (b6 [] b x_1) i) (b6 [] b x_1).length)=b3b a b)∧((z8 o7 (mkN (fun(i:Nat)=>b6 (0:Int) (b6 [] a x_1) i) (b6 [] a x_1).length) (mkN (fun(i:Nat)=>b6 (0:Int) (b6 [] b x_1) i) (b6 []
 b x_1).length) != (0:Int))=false→∃(x_2:Nat),((x_2≤if b.length > a.length then b.length else a.length)∧a1y (fun(x:Nat)=>z8 o7 (a0h a x) (a0h b x)) x_2=(0:Int))∧((PLoop.of (b4p a b (14:Nat))).ann x).mu x_2 < ((PLoop.of (b4p a b (14:Nat))).ann x).mu x_1∧(a.length=a.length∧b.length=b.length∧a.length=a.length∧(↑a.length:Int)=(↑a.length:Int)∧b.length=b.length∧(↑b.length:Int)=(↑b.length:Int)∧((if (↑b.length:Int) > (↑a.length:Int) then(↑b.length:Int) else(↑a.length:Int))=if (↑b.length:Int) > (↑a.length:Int) then(↑b.length:Int) else(↑a.length:Int))∧IntKind.i64.wrap ((↑x_1:Int) + (1:Int))=(↑x_2:Int)∧True)∧eqA a.length (j8 a)∧eqA b.length (j8 b)∧True))∧(decide ((↑x_1:Int) < (↑b.length:Int))=false→(b6 [] a x_1).length=(b6 [] a x_1).length∧(0:Nat)=(0:Nat)∧(mkN (fun(i:Nat)=>b6 (0:Int) (b6 [] a x_1) i) (b6 [] a x_1).length).length≤(1099511627776:Nat)∧((z8 o7 (mkN (fun(i:Nat)=>b6 (0:Int) (b6 [] a x_1) i) (b6 [] a x_1).length) [] != (0:Int))=true→z8 o7 (mkN (fun(i:Nat)=>b6 (0:Int) (b6 [] a x_1) i) (b6 [] a x_1).length) []=b3b a b)∧((z8 o7 (mkN (fun(i:Nat)=>b6 (0:Int) (b6 [] a x_1) i) (b6 [] a x_1).length) [] != (0:Int))=false→∃(x_2:Nat),((x_2≤if b.length > a.length then b.length else a.length)∧a1y (fun(x:Nat)=>z8 o7 (a0h a x) (a0h b x)) x_2
 = (0:Int))∧((PLoop.of (b4p a b (14:Nat))).ann x).mu x_2 < ((PLoop.of (b4p a b (14:Nat))).ann x).mu x_1∧(a.length=a.length∧b.length=b.length∧a.length=a.length∧(↑a.length:Int)=(↑a.length:Int)∧b.length=b.length∧(↑b.length:Int)=(↑b.length:Int)∧((if (↑b.length:Int) > (↑a.length:Int) then(↑b.length:Int) else(↑a.length:Int))=if (↑b.length:Int) > (↑a.length:Int) then(↑b.length:Int) else(↑a.length:Int))∧IntKind.i64.wrap ((↑x_1:Int) + (1:Int))=(↑x_2:Int)∧True)∧eqA a.length (j8 a)∧eqA b.length (j8 b)∧True)))∧(decide ((↑x_1:Int) < (↑a.length:Int))=false→(decide ((↑x_1:Int) < (↑b.length:Int))=true→((0:Int)≤(↑x_1:Int)∧(↑x_1:Int) < (↑b.length:Int))∧x_1 < b.length∧(0:Nat)=(0:Nat)∧(b6 [] b x_1).length=(b6 [] b x_1).length∧([]:List Pq).length≤(1099511627776:Nat)∧((z8 o7 [] (mkN (fun(i:Nat)=>b6 (0:Int) (b6 [] b x_1) i) (b6 [] b x_1).length) != (0:Int))=true→z8 o7 [] (mkN (fun(i:Nat)=>b6 (0:Int) (b6 [] b x_1) i) (b6 [] b x_1).length)=b3b a b)∧((z8 o7 [] (mkN (fun(i:Nat)=>b6 (0:Int) (b6 [] b x_1) i) (b6 [] b x_1).length) != (0:Int))=false→∃(x_2:Nat),((x_2≤if b.length > a.length then b.length else a.length)∧a1y (fun(x:Nat)=>z8 o7 (a0h a x) (a0h b x)) x_2=(0:Int))∧((PLoop.of (b4p a b (14:Nat))).ann x).mu x_2 < ((PLoop.of (b4p a b (14:Nat))).ann x).mu
 x_1∧(a.length=a.length∧b.length=b.length∧a.length=a.length∧(↑a.length:Int)=(↑a.length:Int)∧b.length=b.length∧(↑b.length:Int)=(↑b.length:Int)∧((if (↑b.length:Int) > (↑a.length:Int) then(↑b.length:Int) else(↑a.length:Int))=if (↑b.length:Int) > (↑a.length:Int) then(↑b.length:Int) else(↑a.length:Int))∧IntKind.i64.wrap ((↑x_1:Int) + (1:Int))=(↑x_2:Int)∧True)∧eqA a.length (j8 a)∧eqA b.length (j8 b)∧True))∧(decide ((↑x_1:Int) < (↑b.length:Int))=false→(0:Nat)=(0:Nat)∧(0:Nat)=(0:Nat)∧([]:List Pq).length≤(1099511627776:Nat)∧((z8 o7 [] [] != (0:Int))=true→z8 o7 [] []=b3b a b)∧((z8 o7 [] [] != (0:Int))=false→∃(x_2:Nat),((x_2≤if b.length > a.length then b.length else a.length)∧a1y (fun(x:Nat)=>z8 o7 (a0h a x) (a0h b x)) x_2=(0:Int))∧((PLoop.of (b4p a b (14:Nat))).ann x).mu x_2 < ((PLoop.of (b4p a b (14:Nat))).ann x).mu x_1∧(a.length=a.length∧b.length=b.length∧a.length=a.length∧(↑a.length:Int)=(↑a.length:Int)∧b.length=b.length∧(↑b.length:Int)=(↑b.length:Int)∧((if (↑b.length:Int) > (↑a.length:Int) then(↑b.length:Int) else(↑a.length:Int))=if (↑b.length:Int) > (↑a.length:Int) then(↑b.length:Int) else(↑a.length:Int))∧IntKind.i64.wrap ((↑x_1:Int) + (1:Int))=(↑x_2:Int)∧True)∧eqA a.length (j8 a)∧eqA b.length (j8 b)∧True))))∧(decide ((↑x_1
 : Int) < if (↑b.length:Int) > (↑a.length:Int) then(↑b.length:Int) else(↑a.length:Int))=false→(0:Int)=b3b a b)):=by kernel_rfl
theorem v92 (a b:List (List Int)) (h:(L40 a.length∧L40 b.length)∧SzR a):q92D a b:=by
 rw[d4z]
 obtain⟨⟨ha,hb⟩,hr⟩:=h
 have ha:a.length≤1099511627776:=ha
 have hb:b.length≤1099511627776:=hb
 have hra:∀ x,x < a.length→(b6 [] a x).length≤1099511627776:=fun o ho=>hr _ (by rw[s4 [] a _ ho]; exact z2f ho)
 simp only[eq_self,true_and,and_true,z0n,imp_self,l7,l8,n6,g7,g9,PLoop.of,p9,AV.len,i5,z0s,j4,j7,j6,l9,m4,m5,b4p]
 have hN:(if (b.length:Int) > (a.length:Int) then(b.length:Int) else(a.length:Int))=((if b.length > a.length then b.length else a.length:Nat):Int):=by
  split <;> split <;> omega
 have hN2:(if b.length > a.length then b.length else a.length)≤1099511627776:=by split <;> omega
 have hM:b3b a b=a1y (fun x=>z8 o7 (a0h a x) (a0h b x)) (if b.length > a.length then b.length else a.length):=rfl
 rw[hN,hM]
 generalize (if b.length > a.length then b.length else a.length)=N at *
 refine⟨(),⟨0,⟨by omega,rfl⟩,rfl⟩,fun j hj=>⟨fun hlt=>?_,fun hlt=>?_⟩⟩
 ·have h1:j < N:=by have:=z0e hlt; omega
  have yes:∀ {l m:List Int},a0h a j=l→a0h b j=m→(z8 o7 l m != 0)=true→z8 o7 l m=a1y (fun x=>z8 o7 (a0h a x) (a0h b x)) N:=fun {l m} e1 e2 hne=>by
   subst e1; subst e2
   exact(c8d (f:=fun x=>z8 o7 (a0h a x) (a0h b x)) hj.2 (by simpa using hne) h1).symm
  have no:∀ {l m:List Int},a0h a j=l→a0h b j=m→(z8 o7 l m != 0)=false→∃ x_2:Nat,(x_2≤N∧a1y (fun x=>z8 o7 (a0h a x) (a0h b x)) x_2=0)∧N - x_2 < N - j∧IntKind.i64.wrap ((j:Int) + 1)=(x_2:Int):=fun {l m} e1 e2 hne=>by
   subst e1; subst e2
   exact⟨j + 1,⟨by omega,c0z hj.2 (by simpa using hne)⟩,by omega,wrS (n:=N) h1 hN2⟩
  have oa:¬ j < a.length→a0h a j=[]:=fun h=>nthD_out _ (by omega)
  have ob:¬ j < b.length→a0h b j=[]:=fun h=>nthD_out _ (by omega)
  refine⟨fun h2=>?_,fun h2=>?_⟩
  ·have h2:j < a.length:=by have:=z0e h2; omega
   refine⟨⟨by omega,by omega⟩,h2,fun h3=>?_,fun h3=>?_⟩
   ·have h3:j < b.length:=by have:=z0e h3; omega
    exact⟨⟨by omega,by omega⟩,h3,hra j h2,yes rfl rfl,no rfl rfl⟩
   ·have h3:¬ j < b.length:=by have:=z0m h3; omega
    exact⟨hra j h2,yes rfl (ob h3),no rfl (ob h3)⟩
  ·have h2:¬ j < a.length:=by have:=z0m h2; omega
   refine⟨fun h3=>?_,fun h3=>?_⟩
   ·have h3:j < b.length:=by have:=z0e h3; omega
    exact⟨⟨by omega,by omega⟩,h3,by simp,yes (oa h2) rfl,no (oa h2) rfl⟩
   ·have h3:¬ j < b.length:=by have:=z0m h3; omega
    exact⟨by simp,yes (oa h2) (ob h3),no (oa h2) (ob h3)⟩
 ·have h1:j=N:=by have:=z0m hlt; omega
  rw[← h1]; exact hj.2.symm
theorem n92 (nm:List (Option AV)):CallOk Tryz.prog [] 92 (o5 EL none nm [.lf .rs,.lf .rs] d5f):=x4 Tryz.func92 fo92 fun av pre rv h=>by
 unfold d5f at h; split at h <;> cases h
 exact⟨⟨rfl,fun t a e=>by cases e <;> exact z0h _ _⟩,fun hp=>⟨_,v92 _ _ (hp _ (.head _)),rfl,(m6 (n99 _) t8),t9⟩⟩
def mpA {α β:Type} (f:α→β) (d:α) (l:List α):Nat→List β
 | 0=>[]
 | q + 1=>mpA f d l q ++ [f (b6 d l q)]
theorem c2x {α β:Type} (f:α→β) (d:α) (l:List α):∀ q,(mpA f d l q).length=q:=by
 intro q
 induction q with
 | zero=>rfl
 | succ q ih=>simp[mpA,ih]
theorem c7b {α β:Type} (f:α→β) (d:α) (l:List α):∀ q,q≤l.length→mpA f d l q=(l.take q).map f:=by
 intro q
 induction q with
 | zero=>intro _; simp[mpA]
 | succ q ih =>
  intro h
  rw[mpA,ih (by omega),List.take_succ_eq_append_getElem (by omega),s4 d l q (by omega),List.map_append,List.map_singleton]
theorem b28 {α β:Type} (f:α→β) (d:α) (l:List α):mpA f d l l.length=l.map f:=by
 rw[c7b f d l _ (z0q _),z3i]
def toB:Int→Option Int:=fun a=>bif a == -2 then some (-2) else bif a == -1 then some (-1) else none
def toM (L:List Int):Int→Option Int:=a4f toB L L.length
def toF (L:List Int) (i:Int):Int:=a1g (toM L i)
def arE (E:List Ev) (L:List Int):List Ev:=L.map (evA E)
def arR (R:List Int) (L:List Int):List Int:=L.map (fun i=>toF L (inA R i))
def arM (M:List (List Int)) (L:List Int):List (List Int):=M.map (fun r=>r.map (toF L))
def lA1 (L:List Int) (t r:Nat):LAnn:=p9 L.length t (fun _=>True) (fun j=>[(r,.mapi .i64 (some .i64) (a4f toB L j))]) []
def lA2 (E:List Ev) (R:List Int) (L:List Int) (t c a b r:Nat):LAnn:=p9 L.length t (fun _=>True) (fun j=>[(c,.cells [.sl a j,.sl b j,.sl r 0]),(a,.oarr 85 j (l5 (mpA (evA E) 0 L j))),(b,.oarr 3 j (i9 (mpA (fun i=>toF L (inA R i)) 0 L j)))]) [a,b]
def lA3 (M:List (List Int)) (L:List Int) (t c a b r:Nat):LAnn:=p9 M.length t (fun _=>True) (fun o=>[(c,.cells [.sl a L.length,.sl b L.length,.sl r o]),(r,.oarr 23 o (j8 (mpA (fun q=>q.map (toF L)) [] M o)))]) [r]
def lA4 (M:List (List Int)) (L:List Int) (t s e:Nat):PLoop:=⟨Nat,fun o=>{ X:=Nat,inv:=fun q=>q≤(a0h M o).length∧o < M.length,slots:=fun q=>[(t,.i .i64 (q:Int)),(s,.sl e q)],mem:=fun q=>[(e,.oarr 3 q (i9 (mpA (toF L) 0 (a0h M o) q)))],mu:=fun q=>(a0h M o).length - q,kill:=[e] }⟩
def inO (E:List Ev) (L:List Int):Prop:=∀ i∈L,0≤i∧i < E.length
def pcA (E:List Ev) (R:List Int) (M:List (List Int)) (L:List Int):Prop:=(L.length≤64∧R.length=E.length∧M.length≤8)∧SzR M∧inO E L
def d70:SpG:=fun
 | [.ag [.es E,.is R,.rs M],.lf (.is L)]=>some ([pcA E R M L],.gr none (arE E L) (arR R L) (arM M L))
 | _=>none
def kArr (nm:List (Option AV)):Nat × (List MBlk→List SV→Option AR):=(65,o5 EL none nm [PG,.lf .is] d70)
section
variable {α β:Type} {f:α→β} {d:α} {l:List α} {b:β}
theorem c92 {q:Nat}:b6 b (mpA f d l (q + 1)) q=f (b6 d l q):=by
 have h:=b25 b (l:=mpA f d l q) (x:=f (b6 d l q))
 rwa [c2x] at h
theorem c8x {q j:Nat} (h:j < q):b6 b (mpA f d l (q + 1)) j=b6 b (mpA f d l q) j:=b08 b (by rw[c2x]; exact h)
theorem b7u {j q:Nat} (h:Nat.blt j q=false) (hj:j < q + 1):j=q:=by
 have:¬ j < q:=fun h'=>by rw[← z0z] at h'; rw[h] at h'; cases h'
 omega
theorem a5o (g:β→Int) {q:Nat} {x:Int} (hx:x=g (f (b6 d l q))):∀ j,j < q + 1→(bif Nat.blt j q then g (b6 b (mpA f d l q) j) else e8 [x] (j - q))=g (b6 b (mpA f d l (q + 1)) j):=fun j hj=>by
 cases h:Nat.blt j q
 ·obtain rfl:=b7u h hj
  rw[z0l,c92,hx]
  rfl
 ·rw[z0g,c8x (by rwa [z0z] at h)]
end
theorem c7d {α:Type} {f:α→Int} {d:α} {l:List α} {q:Nat} {x:Int} (hx:x=f (b6 d l q)):∀ j,j < q + 1→(bif Nat.blt j q then b6 0 (mpA f d l q) j else e8 [x] (j - q))=b6 0 (mpA f d l (q + 1)) j:=a5o (fun x=>x) hx
theorem fo65:o6 Tryz.prog 65:=⟨Tryz.f65,Tryz.func65,by kernel_rfl,by kernel_rfl⟩
def q65D (E:List Ev) (R:List Int) (M:List (List Int)) (L:List Int):Prop:=n7 (({ loops:=[(0,.of (lA1 L 20 6)),(2,.of (lA2 E R L 31 7 8 9 10)),(4,.of (lA3 M L 61 7 8 9 10)),(6,lA4 M L 67 13 12)],takes:=[(8,fun _ _=>[.fresh 7 0 85 9,.fresh 7 1 3 1,.fresh 7 2 23 1,.cols 10 (j8 [])])] }:Kit)).tab Tryz.f65 [grV E R M,.sl 3 L.length] (grM E R M ++ [.arr L.length (i9 L)]) ((QV.gr none (arE E L) (arR R L) (arM M L)).post EL)
theorem d6p (E:List Ev) (R:List Int) (M:List (List Int)) (L:List Int):q65D E R M L=(∃(x:PUnit),(∃(x:Nat),(x≤L.length∧True)∧((0:Int)=(↑x:Int)∧True)∧(∀(x_1:Int),(bif x_1 == (-2:Int) then some (-2:Int) else bif x_1 == (-1:Int) then some (-1:Int) else none)=a4f toB L x x_1)∧True)∧∀(x_1:Nat),x_1≤L.length∧True→(decide ((↑x_1:Int) < (↑L.length:Int))=true→((0:Int)≤(↑x_1:Int)∧(↑x_1:Int) < (↑L.length:Int))∧x_1 < L.length∧∃(x_2:Nat),(x_2≤L.length∧True)∧((PLoop.of (lA1 L (20:Nat) (6:Nat))).ann x).mu x_2 < ((PLoop.of (lA1 L (20:Nat) (6:Nat))).ann x).mu x_1∧((E.length=E.length∧R.length=R.length∧M.length=M.length)∧L.length=L.length∧True∧True∧True∧True∧True∧L.length=L.length∧(↑L.length:Int)=(↑L.length:Int)∧IntKind.i64.wrap ((↑x_1:Int) + (1:Int))=(↑x_2:Int)∧True)∧eqA E.length (l5 E)∧eqA R.length (i9 R)∧eqA M.length (j8 M)∧eqA L.length (i9 L)∧(E.length=E.length∧R.length=R.length∧M.length=M.length)∧(True∧True∧True)∧(∀(x:Int),(bif x == b6 (0:Int) L x_1 then some (↑x_1:Int) else a4f toB L x_1 x)=a4f toB L x_2 x)∧True)∧(decide ((↑x_1:Int) < (↑L.length:Int))=false→(0:Nat)=(0:Nat)∧∃(x:PUnit),(∃(x:Nat),(x≤L.length∧True)∧((0:Int)=(↑x:Int)∧True)∧((0:Nat)=x∧(0:Nat)=x∧(0:Nat)=(0:Nat))∧((0:Nat)=x∧x=(0:Nat)∧x=(0:Nat)∧x=(0:Nat)∧x=(0:Nat)∧x=(0:Nat)∧x=(0:Nat)∧x=(0:Nat)∧x=(0 :
 Nat)∧x=(0:Nat)∧True)∧((0:Nat)=x∧x=(0:Nat)∧True)∧True)∧∀(x_2:Nat),x_2≤L.length∧True→(decide ((↑x_2:Int) < (↑L.length:Int))=true→((0:Int)≤(↑x_2:Int)∧(↑x_2:Int) < (↑L.length:Int))∧x_2 < L.length∧((0:Int)≤b6 (0:Int) L x_2∧b6 (0:Int) L x_2 < (↑E.length:Int))∧(b6 (0:Int) L x_2).toNat < E.length∧x_2=x_2∧(1:Nat)=(1:Nat)∧(x_2 + (1:Nat)) * (72:Nat)≤(140737488355328:Nat)∧x_2 + (1:Nat)≤(9223372036854775807:Nat)∧((0:Int)≤b6 (0:Int) L x_2∧b6 (0:Int) L x_2 < (↑R.length:Int))∧(b6 (0:Int) L x_2).toNat < R.length∧x_2=x_2∧(1:Nat)=(1:Nat)∧(x_2 + (1:Nat)) * (8:Nat)≤(140737488355328:Nat)∧x_2 + (1:Nat)≤(9223372036854775807:Nat)∧∃(x_3:Nat),(x_3≤L.length∧True)∧((PLoop.of (lA2 E R L (31:Nat) (7:Nat) (8:Nat) (9:Nat) (10:Nat))).ann x).mu x_3 < ((PLoop.of (lA2 E R L (31:Nat) (7:Nat) (8:Nat) (9:Nat) (10:Nat))).ann x).mu x_2∧((E.length=E.length∧R.length=R.length∧M.length=M.length)∧L.length=L.length∧True∧True∧True∧True∧True∧True∧L.length=L.length∧(↑L.length:Int)=(↑L.length:Int)∧(↑x_1:Int)=(↑x_1:Int)∧false=false∧L.length=L.length∧(↑L.length:Int)=(↑L.length:Int)∧IntKind.i64.wrap ((↑x_2:Int) + (1:Int))=(↑x_3:Int)∧True)∧eqA E.length (l5 E)∧eqA R.length (i9 R)∧eqA M.length (j8 M)∧eqA L.length (i9 L)∧(E.length =
 E.length∧R.length=R.length∧M.length=M.length)∧(True∧True∧True)∧(∀(x:Int),a4f toB L x_1 x=a4f toB L x_1 x)∧(x_2 + (1:Nat)=x_3∧x_2 + (1:Nat)=x_3∧(0:Nat)=(0:Nat))∧(x_2 + (1:Nat)=x_3∧(∀(j:Nat),j < x_3→(bif j.blt x_2 then(b6 e0 (mpA (evA E) (0:Int) L x_2) j).ag else e8 [(b6 e0 E (b6 (0:Int) L x_2).toNat).ag] (j - x_2))=(b6 e0 (mpA (evA E) (0:Int) L x_3) j).ag)∧(∀(j:Nat),j < x_3→(bif j.blt x_2 then(b6 e0 (mpA (evA E) (0:Int) L x_2) j).ix else e8 [(b6 e0 E (b6 (0:Int) L x_2).toNat).ix] (j - x_2))=(b6 e0 (mpA (evA E) (0:Int) L x_3) j).ix)∧(∀(j:Nat),j < x_3→(bif j.blt x_2 then(b6 e0 (mpA (evA E) (0:Int) L x_2) j).k else e8 [(b6 e0 E (b6 (0:Int) L x_2).toNat).k] (j - x_2))=(b6 e0 (mpA (evA E) (0:Int) L x_3) j).k)∧(∀(j:Nat),j < x_3→(bif j.blt x_2 then(b6 e0 (mpA (evA E) (0:Int) L x_2) j).ob else e8 [(b6 e0 E (b6 (0:Int) L x_2).toNat).ob] (j - x_2))=(b6 e0 (mpA (evA E) (0:Int) L x_3) j).ob)∧(∀(j:Nat),j < x_3→(bif j.blt x_2 then(b6 e0 (mpA (evA E) (0:Int) L x_2) j).mu else e8 [(b6 e0 E (b6 (0:Int) L x_2).toNat).mu] (j - x_2))=(b6 e0 (mpA (evA E) (0:Int) L x_3) j).mu)∧(∀(j:Nat),j < x_3→(bif j.blt x_2 then(b6 e0 (mpA (evA E) (0:Int) L x_2) j).en else e8 [(b6 e0 E (b6 (0:Int) L x_2).toNat).en] (j - x_2))=(b6 e0 (mpA (evA E) (0:Int) L x_3) j).en)∧(∀(j:Nat),j < x_3→(bif
 j.blt x_2 then(b6 e0 (mpA (evA E) (0:Int) L x_2) j).od else e8 [(b6 e0 E (b6 (0:Int) L x_2).toNat).od] (j - x_2))=(b6 e0 (mpA (evA E) (0:Int) L x_3) j).od)∧(∀(j:Nat),j < x_3→(bif j.blt x_2 then(b6 e0 (mpA (evA E) (0:Int) L x_2) j).rd else e8 [(b6 e0 E (b6 (0:Int) L x_2).toNat).rd] (j - x_2))=(b6 e0 (mpA (evA E) (0:Int) L x_3) j).rd)∧(∀(j:Nat),j < x_3→(bif j.blt x_2 then(b6 e0 (mpA (evA E) (0:Int) L x_2) j).wr else e8 [(b6 e0 E (b6 (0:Int) L x_2).toNat).wr] (j - x_2))=(b6 e0 (mpA (evA E) (0:Int) L x_3) j).wr)∧True)∧(x_2 + (1:Nat)=x_3∧(∀(j:Nat),j < x_3→(bif j.blt x_2 then b6 (0:Int) (mpA (fun(i:Int)=>toF L (inA R i)) (0:Int) L x_2) j else e8 [a1g (a4f toB L x_1 (b6 (0:Int) R (b6 (0:Int) L x_2).toNat))] (j - x_2))=b6 (0:Int) (mpA (fun(i:Int)=>toF L (inA R i)) (0:Int) L x_3) j)∧True)∧eqA (0:Nat) (j8 [])∧True)∧(decide ((↑x_2:Int) < (↑L.length:Int))=false→∃(x:PUnit),(∃(x:Nat),(x≤M.length∧True)∧((0:Int)=(↑x:Int)∧True)∧(x_2=L.length∧x_2=L.length∧(0:Nat)=x)∧((0:Nat)=x∧((∀(j:Nat),j < x→(b6 ([]:List Int) [] j).length=(b6 [] (mpA (fun(q:List Int)=>List.map (toF L) q) [] M x) j).length)∧(∀(j:Nat),j < x→∀(i:Nat),i < (b6 [] (mpA (fun(q:List Int)=>List.map (toF L) q) [] M x) j).length→b6 (0:Int) (b6 ([]:List Int) [] j) i=b6 (0:Int) (b6 [] (mpA
 (fun(q:List Int)=>List.map (toF L) q) [] M x) j) i)∧True)∧True)∧True)∧∀(x_3:Nat),x_3≤M.length∧True→(decide ((↑x_3:Int) < (↑M.length:Int))=true→((0:Int)≤(↑x_3:Int)∧(↑x_3:Int) < (↑M.length:Int))∧x_3 < M.length∧∃(x_4:Nat),(∃(x:Nat),(x≤(a0h M x_4).length∧x_4 < M.length)∧((0:Int)=(↑x:Int)∧(0:Nat)=x∧True)∧((0:Nat)=x∧x=(0:Nat)∧True)∧True)∧∀(x_5:Nat),x_5≤(a0h M x_4).length∧x_4 < M.length→(decide ((↑x_5:Int) < (↑(b6 [] M x_3).length:Int))=true→((0:Int)≤(↑x_5:Int)∧(↑x_5:Int) < (↑(b6 [] M x_3).length:Int))∧x_5 < (b6 [] M x_3).length∧x_5=x_5∧(1:Nat)=(1:Nat)∧(x_5 + (1:Nat)) * (8:Nat)≤(140737488355328:Nat)∧x_5 + (1:Nat)≤(9223372036854775807:Nat)∧∃(x:Nat),(x≤(a0h M x_4).length∧x_4 < M.length)∧((lA4 M L (67:Nat) (13:Nat) (12:Nat)).ann x_4).mu x < ((lA4 M L (67:Nat) (13:Nat) (12:Nat)).ann x_4).mu x_5∧((E.length=E.length∧R.length=R.length∧M.length=M.length)∧L.length=L.length∧True∧True∧True∧True∧(b6 [] M x_3).length=(b6 [] M x_3).length∧x_5 + (1:Nat)=x∧True∧True∧L.length=L.length∧(↑L.length:Int)=(↑L.length:Int)∧(↑x_1:Int)=(↑x_1:Int)∧false=false∧L.length=L.length∧(↑L.length:Int)=(↑L.length:Int)∧(↑x_2:Int)=(↑x_2:Int)∧false=false∧True∧M.length=M.length∧(↑M.length:Int)=(↑M.length:Int)∧(↑x_3:Int)=(↑x_3 :
 Int)∧true=true∧x_3=x_3∧(b6 [] M x_3).length=(b6 [] M x_3).length∧(b6 [] M x_3).length=(b6 [] M x_3).length∧(↑(b6 [] M x_3).length:Int)=(↑(b6 [] M x_3).length:Int)∧IntKind.i64.wrap ((↑x_5:Int) + (1:Int))=(↑x:Int)∧True)∧eqA E.length (l5 E)∧eqA R.length (i9 R)∧eqA M.length (j8 M)∧eqA L.length (i9 L)∧(E.length=E.length∧R.length=R.length∧M.length=M.length)∧(True∧True∧True)∧(∀(x:Int),a4f toB L x_1 x=a4f toB L x_1 x)∧(L.length=L.length∧L.length=L.length∧x_3=x_3)∧eqA x_2 (l5 (mpA (evA E) (0:Int) L x_2))∧eqA x_2 (i9 (mpA (fun(i:Int)=>toF L (inA R i)) (0:Int) L x_2))∧eqA x_3 (j8 (mpA (fun(q:List Int)=>List.map (toF L) q) [] M x_3))∧eqA (b6 [] M x_3).length [Col.int IntKind.i64 fun(i:Nat)=>b6 (0:Int) (b6 [] M x_3) i]∧(x_5 + (1:Nat)=x∧(∀(j:Nat),j < x→(bif j.blt x_5 then b6 (0:Int) (mpA (toF L) (0:Int) (a0h M x_4) x_5) j else e8 [a1g (a4f toB L x_1 (b6 (0:Int) (b6 [] M x_3) x_5))] (j - x_5))=b6 (0:Int) (mpA (toF L) (0:Int) (a0h M x_4) x) j)∧True)∧True)∧(decide ((↑x_5:Int) < (↑(b6 [] M x_3).length:Int))=false→x_5=x_5∧x_3=x_3∧(1:Nat)=(1:Nat)∧(x_3 + (1:Nat)) * (24:Nat)≤(140737488355328:Nat)∧x_3 + (1:Nat)≤(9223372036854775807:Nat)∧∃(x_6:Nat),(x_6≤M.length∧True)∧((PLoop.of (lA3 M L (61:Nat) (7:Nat) (8:Nat) (9:Nat) (10 :
 Nat))).ann x).mu x_6 < ((PLoop.of (lA3 M L (61:Nat) (7:Nat) (8:Nat) (9:Nat) (10:Nat))).ann x).mu x_3∧((E.length=E.length∧R.length=R.length∧M.length=M.length)∧L.length=L.length∧True∧True∧True∧True∧True∧True∧L.length=L.length∧(↑L.length:Int)=(↑L.length:Int)∧(↑x_1:Int)=(↑x_1:Int)∧false=false∧L.length=L.length∧(↑L.length:Int)=(↑L.length:Int)∧(↑x_2:Int)=(↑x_2:Int)∧false=false∧True∧M.length=M.length∧(↑M.length:Int)=(↑M.length:Int)∧IntKind.i64.wrap ((↑x_3:Int) + (1:Int))=(↑x_6:Int)∧True)∧eqA E.length (l5 E)∧eqA R.length (i9 R)∧eqA M.length (j8 M)∧eqA L.length (i9 L)∧(E.length=E.length∧R.length=R.length∧M.length=M.length)∧(True∧True∧True)∧(∀(x:Int),a4f toB L x_1 x=a4f toB L x_1 x)∧(L.length=L.length∧L.length=L.length∧x_3 + (1:Nat)=x_6)∧eqA x_2 (l5 (mpA (evA E) (0:Int) L x_2))∧eqA x_2 (i9 (mpA (fun(i:Int)=>toF L (inA R i)) (0:Int) L x_2))∧(x_3 + (1:Nat)=x_6∧((∀(j:Nat),j < x_6→(bif j.blt x_3 then(b6 [] (mpA (fun(q:List Int)=>List.map (toF L) q) [] M x_3) j).length else x_5)=(b6 [] (mpA (fun(q:List Int)=>List.map (toF L) q) [] M x_6) j).length)∧(∀(j:Nat),j < x_6→∀(i:Nat),i < (b6 [] (mpA (fun(q:List Int)=>List.map (toF L) q) [] M x_6) j).length→(bif j.blt x_3 then fun(i:Nat)=>b6 (0:Int) (b6 [] (mpA (fun(q:List Int)=>List.map
 (toF L) q) [] M x_3) j) i else b6 (0:Int) (mpA (toF L) (0:Int) (a0h M x_4) x_5)) i=b6 (0:Int) (b6 [] (mpA (fun(q:List Int)=>List.map (toF L) q) [] M x_6) j) i)∧True)∧True)∧True))∧(decide ((↑x_3:Int) < (↑M.length:Int))=false→(L.length=(arE E L).length∧x_2=(arE E L).length∧(∀(j:Nat),j < (arE E L).length→(b6 e0 (mpA (evA E) (0:Int) L x_2) j).ag=(b6 e0 (arE E L) j).ag)∧(∀(j:Nat),j < (arE E L).length→(b6 e0 (mpA (evA E) (0:Int) L x_2) j).ix=(b6 e0 (arE E L) j).ix)∧(∀(j:Nat),j < (arE E L).length→(b6 e0 (mpA (evA E) (0:Int) L x_2) j).k=(b6 e0 (arE E L) j).k)∧(∀(j:Nat),j < (arE E L).length→(b6 e0 (mpA (evA E) (0:Int) L x_2) j).ob=(b6 e0 (arE E L) j).ob)∧(∀(j:Nat),j < (arE E L).length→(b6 e0 (mpA (evA E) (0:Int) L x_2) j).mu=(b6 e0 (arE E L) j).mu)∧(∀(j:Nat),j < (arE E L).length→(b6 e0 (mpA (evA E) (0:Int) L x_2) j).en=(b6 e0 (arE E L) j).en)∧(∀(j:Nat),j < (arE E L).length→(b6 e0 (mpA (evA E) (0:Int) L x_2) j).od=(b6 e0 (arE E L) j).od)∧(∀(j:Nat),j < (arE E L).length→(b6 e0 (mpA (evA E) (0:Int) L x_2) j).rd=(b6 e0 (arE E L) j).rd)∧(∀(j:Nat),j < (arE E L).length→(b6 e0 (mpA (evA E) (0:Int) L x_2) j).wr=(b6 e0 (arE E L) j).wr)∧True)∧(L.length=(arR R L).length∧x_2=(arR R L).length∧(∀(j:Nat),j < (arR R L).length→b6 (0:Int) (mpA (fun(i:Int)=>toF L (inA R i)) (0:Int) L x_2) j =
 b6 (0:Int) (arR R L) j)∧True)∧x_3=(arM M L).length∧x_3=(arM M L).length∧((∀(j:Nat),j < (arM M L).length→(b6 [] (mpA (fun(q:List Int)=>List.map (toF L) q) [] M x_3) j).length=(b6 [] (arM M L) j).length)∧(∀(j:Nat),j < (arM M L).length→∀(i:Nat),i < (b6 [] (arM M L) j).length→b6 (0:Int) (b6 [] (mpA (fun(q:List Int)=>List.map (toF L) q) [] M x_3) j) i=b6 (0:Int) (b6 [] (arM M L) j) i)∧True)∧True)))):=by kernel_rfl
theorem v65 (E:List Ev) (R:List Int) (M:List (List Int)) (L:List Int) (h:pcA E R M L):q65D E R M L:=by
 rw[d6p]
 obtain⟨⟨hL,hR,hM⟩,hS,hO⟩:=h
 have hrow:∀ o,o < M.length→(b6 [] M o).length≤1099511627776:=fun o ho=>hS _ (by rw[s4 [] M _ ho]; exact z2f ho)
 have hin:∀ j,j < L.length→0≤b6 0 L j∧b6 0 L j < E.length:=fun j hj=>hO _ (by rw[s4 0 L _ hj]; exact z2f hj)
 simp only[eq_self,true_and,and_true,z0n,imp_self,l7,l8,n6,g7,g9,PLoop.of,p9,AV.len,i5,z0s,j4,j7,j6,l9,m4,m5,lA1,lA2,lA3,lA4]
 refine⟨(),⟨0,by omega,rfl,fun _=>rfl⟩,fun j hj=>⟨fun hlj=>?_,fun hlj=>?_⟩⟩
 ·have hj2:j < L.length:=by have:=z0e hlj; omega
  exact⟨⟨by omega,by omega⟩,hj2,j + 1,by omega,by omega,wrS (n:=L.length) hj2 (by omega),fun _=>rfl⟩
 have hj2:j=L.length:=by have:=z0m hlj; omega
 subst hj2
 refine⟨(),⟨0,by simp⟩,fun p hp=>⟨fun hlp=>?_,fun hlp=>?_⟩⟩
 ·have hp2:p < L.length:=by have:=z0e hlp; omega
  have hi:=hin p hp2
  refine⟨⟨by omega,by omega⟩,hp2,hi,by omega,by omega,by omega,by omega,by omega,by omega,by omega,p + 1,by omega,by omega,wrS (n:=L.length) hp2 (by omega),⟨rfl,rfl⟩,⟨rfl,a5o Ev.ag rfl,a5o Ev.ix rfl,a5o Ev.k rfl,a5o Ev.ob rfl,a5o Ev.mu rfl,a5o Ev.en rfl,a5o Ev.od rfl,a5o Ev.rd rfl,a5o Ev.wr rfl⟩,rfl,c7d rfl⟩
 have hp2:p=L.length:=by have:=z0m hlp; omega
 subst hp2
 refine⟨(),⟨0,by simp⟩,fun o ho=>⟨fun hlo=>?_,fun hlo=>?_⟩⟩
 ·have ho2:o < M.length:=by have:=z0e hlo; omega
  have hro:=hrow o ho2
  have hx:a0h M o=b6 [] M o:=rfl
  refine⟨⟨by omega,by omega⟩,ho2,o,⟨0,by simp[ho2]⟩,fun q hq=>⟨fun hlq=>?_,fun hlq=>?_⟩⟩
  ·have hq2:q < (b6 [] M o).length:=by have:=z0e hlq; omega
   exact⟨⟨by omega,by omega⟩,hq2,by omega,by omega,q + 1,⟨by rw[hx]; omega,ho2⟩,by rw[hx]; omega,⟨rfl,wrS (n:=(b6 [] M o).length) hq2 hro⟩,rfl,c7d rfl⟩
  ·have hq2:q=(b6 [] M o).length:=by have:=z0m hlq; have:=hq.1; rw[hx] at this; omega
   have e:mpA (toF L) 0 (a0h M o) q=(b6 [] M o).map (toF L):=by rw[hq2,← hx,b28]
   rw[e]
   refine⟨by omega,by omega,o + 1,by omega,by omega,wrS (n:=M.length) ho2 (by omega),rfl,rfl,fun j hj=>?_,fun j hj i _=>?_⟩
   ·cases hb:Nat.blt j o
    ·obtain rfl:=b7u hb hj
     rw[z0l,c92,z3p,hq2]
    ·rw[z0g,c8x (by rwa [z0z] at hb)]
   ·cases hb:Nat.blt j o
    ·obtain rfl:=b7u hb hj
     rw[z0l,c92]
    ·rw[z0g,c8x (by rwa [z0z] at hb)]
 have ho2:o=M.length:=by have:=z0m hlo; omega
 subst ho2
 have e1:mpA (evA E) 0 L L.length=arE E L:=b28 _ _ _
 have e2:mpA (fun i=>toF L (inA R i)) 0 L L.length=arR R L:=b28 _ _ _
 have e3:mpA (fun q:List Int=>q.map (toF L)) [] M M.length=arM M L:=b28 _ _ _
 rw[e1,e2,e3]
 have l1:L.length=(arE E L).length:=by simp[arE]
 have l2:L.length=(arR R L).length:=by simp[arR]
 have l3:M.length=(arM M L).length:=by simp[arM]
 simp only[z0n,and_true,true_and]
 exact⟨⟨l1,l1⟩,⟨l2,l2⟩,l3,l3⟩
theorem n65 (nm:List (Option AV)):CallOk Tryz.prog [] 65 (o5 EL none nm [PG,.lf .is] d70):=x4 Tryz.func65 fo65 fun av pre rv h=>by
 unfold d70 at h; split at h <;> cases h
 exact⟨⟨rfl,fun t a e=>by cases e <;> exact z0h _ _⟩,fun hp=>⟨_,v65 _ _ _ _ (hp _ (.head _)),rfl,t8,t9⟩⟩
def b06 (l:List Int) (x:Int):Bool:=decide (a4v l x ≥ 0)
def d5y:SpP:=fun | [.lf (.is l),.lf (.i x)]=>some ([L40 l.length],plB (b06 l x)) | _=>none
def kCon (nm:List (Option AV)):Nat × (List MBlk→List SV→Option AR):=(64,o5 EL none nm [.lf .is,.lf .i] d5y)
def a69 (P:List Pq) (L:List Int) (k:Int):Nat→Int
 | 0=>0
 | j + 1=>bif (b6 (0,0) P j).2 == k && !L.contains (b6 (0,0) P j).1 then a69 P L k j + 1 else a69 P L k j
def a6h (P:List Pq) (b k:Int):Nat→Int
 | 0=>0
 | j + 1=>bif (b6 (0,0) P j).2 == k && (b6 (0,0) P j).1 == b then a6h P b k j + 1 else a6h P b k j
def wtL (P:List Pq) (L:List Int) (k:Int):Int:=a69 P L k P.length
def q6 (c:Int→Bool) (E:List Ev):Nat→Int
 | 0=>-1
 | i + 1=>bif c i && (decide (q6 c E i < 0) || decide ((evA E i).ag < (evA E (q6 c E i)).ag)) then(i:Int) else q6 c E i
def z6 (P:List Pq) (L:List Int) (i:Int):Bool:=wtL P L i == 0 && !b06 L i
def n8 (P:List Pq) (E:List Ev):Nat→List Int
 | 0=>[]
 | s + 1=>n8 P E s ++ [q6 (z6 P (n8 P E s)) E E.length]
theorem a4z (P:List Pq) (E:List Ev):∀ s,(n8 P E s).length=s:=by
 intro s
 induction s with
 | zero=>rfl
 | succ s ih=>simp[n8,ih]
def d8 (E:List Ev) (R:List Int) (M:List (List Int)):List Pq:=b7 E.length (wF (d5 (o8 (a0p E.length (poG E R M) (rfG E R M) (f8 E R M)) (a0p E.length (poG E R M) (rfG E R M) (f8 E R M)).length)) E.length)
def d5s (E:List Ev) (R:List Int) (M:List (List Int)):SpG:=fun
 | [.lf (.i n),.lf (.rl l)]=>some ([(n=E.length∧E.length≤64)∧l=a0p E.length (poG E R M) (rfG E R M) (f8 E R M)],a9w E.length (d8 E R M))
 | _=>none
def kPre (E:List Ev) (R:List Int) (M:List (List Int)):Nat × (List MBlk→List SV→Option AR):=(54,o5 EL none [] [.lf .i,.lf .rl] (d5s E R M))
def b55 (n:Nat) (P:List Pq):Bool:=a2l n (wF (d5 P) n)
def v4 {α:Type} (b:Bool) (l:List α):List α:=bif b then l else []
def o9 (E:List Ev) (R:List Int) (M:List (List Int)):Bool:=b8 E R M && b55 E.length (d8 E R M)
def a3n (E:List Ev) (R:List Int) (M:List (List Int)):Int:=bif b8 E R M then(bif b55 E.length (d8 E R M) then 0 else 20) else 1
def v8 (E:List Ev) (R:List Int) (M:List (List Int)):List Int:=n8 (d8 E R M) E E.length
def norV (E:List Ev) (R:List Int) (M:List (List Int)):QV:=.gr (some (a3n E R M)) (v4 (o9 E R M) (arE E (v8 E R M))) (v4 (o9 E R M) (arR R (v8 E R M))) (v4 (o9 E R M) (arM M (v8 E R M)))
def c98:SpG:=fun
 | [.ag [.es E,.is R,.rs M]]=>some ([SzG E M],norV E R M)
 | _=>none
def d86 (nm:List (Option AV)):Nat × (List MBlk→List SV→Option AR):=(20,o5 EL gbT nm [PG] c98)
def d7e (d z:Nat):List Slot→List MBlk→List Gh:=fun sl m=>match nth sl d with
 | some ⟨_,.ptr c 0⟩=>(match nth m c with
  | some (.cells [_,.sl q _])=>[.mv (z - c - q),.mv q,.mv c]
  | _=>[])
 | _=>[]
def lN1 (n:Nat) (P:List Pq) (t w:Nat):LAnn:=p9 P.length t (fun _=>True) (fun j=>[(w,.oarr 3 n [.int .i64 (fun k=>a69 P [] k j)])]) []
def lN2 (E:List Ev) (P:List Pq) (t o w:Nat):LAnn where
 X:=Nat
 inv:=fun s=>s≤E.length∧∀ i∈n8 P E s,0≤i∧i < E.length
 slots:=fun s=>[(t,.sl o s)]
 mem:=fun s=>[(o,.oarr 3 s (i9 (n8 P E s))),(w,.oarr 3 E.length [.int .i64 (fun k=>wtL P (n8 P E s) k)])]
 mu:=fun s=>E.length - s
 kill:=[o]
def lN3 (E:List Ev) (P:List Pq) (t b:Nat):PLoop:=⟨Nat,fun s=>{ X:=Nat,inv:=fun i=>i≤E.length∧s < E.length,slots:=fun i=>[(t,.i .i64 (i:Int)),(b,.i .i64 (q6 (z6 P (n8 P E s)) E i))],mem:=fun _=>[],mu:=fun i=>E.length - i,kill:=[] }⟩
def lN4 (E:List Ev) (P:List Pq) (t w:Nat):PLoop:=⟨Nat,fun s=>p9 P.length t (fun _=>s < E.length) (fun j=>[(w,.oarr 3 E.length [.int .i64 (fun k=>wtL P (n8 P E s) k - a6h P (q6 (z6 P (n8 P E s)) E E.length) k j)])]) []⟩
end Go.Proofs.YtaeeaniofljmnaaGreatDoor

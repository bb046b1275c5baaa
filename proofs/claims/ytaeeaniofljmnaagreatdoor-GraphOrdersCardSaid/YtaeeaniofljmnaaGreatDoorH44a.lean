/-
  A part of the proof (H44a).
-/
import Derived.Test.YtaeeaniofljmnaaGreatDoorH40a
namespace Go.Proofs.YtaeeaniofljmnaaGreatDoor
set_option linter.unusedSimpArgs false
set_option linter.unusedVariables false
open Go Go.Proofs.YtaeeaniofljmnaaGreatDoor.Sx
set_option maxRecDepth 100000
theorem d7y:o6 Tryz.prog 181:=⟨Tryz.f181,Tryz.func181,by kernel_rfl,by kernel_rfl⟩
def d36 (n:Int):Prop:=n7 (({}:Kit)).tab Tryz.f181 [.i .i64 n] [] (l4 (.b (a1j n)))
theorem d1x (n:Int):d36 n=((n != n)=a1j n):=by kernel_rfl
theorem v181 (n:Int) :d36 n:=by
 rw[d1x]
 first | simp[a1j] | (rw[a1j]; simp)
theorem n181 (nm:List (Option AV)):CallOk Tryz.prog [] 181 (n6 EL none nm [.lf .i] (sI1 a1j)):=x4 Tryz.func181 d7y fun av pre rv h=>by
 unfold sI1 at h; split at h <;> cases h
 exact⟨⟨rfl,fun t a e=>by cases e <;> exact z0h _ _⟩,fun hp=>⟨_,v181 _ ,rfl,t6,t7⟩⟩
theorem d7z:o6 Tryz.prog 182:=⟨Tryz.f182,Tryz.func182,by kernel_rfl,by kernel_rfl⟩
def d37 (n:Int):Prop:=n7 (({}:Kit)).tab Tryz.f182 [.i .i64 n] [] (l4 (.b (a1j n)))
theorem d1y (n:Int):d37 n=((n != n)=a1j n):=by kernel_rfl
theorem v182 (n:Int) :d37 n:=by
 rw[d1y]
 first | simp[a1j] | (rw[a1j]; simp)
theorem n182 (nm:List (Option AV)):CallOk Tryz.prog [] 182 (n6 EL none nm [.lf .i] (sI1 a1j)):=x4 Tryz.func182 d7z fun av pre rv h=>by
 unfold sI1 at h; split at h <;> cases h
 exact⟨⟨rfl,fun t a e=>by cases e <;> exact z0h _ _⟩,fun hp=>⟨_,v182 _ ,rfl,t6,t7⟩⟩
theorem d80:o6 Tryz.prog 183:=⟨Tryz.f183,Tryz.func183,by kernel_rfl,by kernel_rfl⟩
def d38 (n:Int):Prop:=n7 (({}:Kit)).tab Tryz.f183 [.i .i64 n] [] (l4 (.b (a1j n)))
theorem d1z (n:Int):d38 n=((n != n)=a1j n):=by kernel_rfl
theorem v183 (n:Int) :d38 n:=by
 rw[d1z]
 first | simp[a1j] | (rw[a1j]; simp)
theorem n183 (nm:List (Option AV)):CallOk Tryz.prog [] 183 (n6 EL none nm [.lf .i] (sI1 a1j)):=x4 Tryz.func183 d80 fun av pre rv h=>by
 unfold sI1 at h; split at h <;> cases h
 exact⟨⟨rfl,fun t a e=>by cases e <;> exact z0h _ _⟩,fun hp=>⟨_,v183 _ ,rfl,t6,t7⟩⟩
theorem d7n:o6 Tryz.prog 141:=⟨Tryz.f141,Tryz.func141,by kernel_rfl,by kernel_rfl⟩
def d30 (a b:Int):Prop:=n7 (({ calls:=[kI1 181 a1j] }:Kit)).tab Tryz.f141 [.i .i64 a,.i .i64 b] [] (l4 (.i .i64 (o5 a b)))
theorem d1n (a b:Int):d30 a b=((a1j a=true→(a1j b=true→(0:Int)=o5 a b)∧(a1j b=false→(-1:Int)=o5 a b))∧(a1j a=false→(a1j b=true→(1:Int)=o5 a b)∧(a1j b=false→(decide (a < b)=true→(-1:Int)=o5 a b)∧(decide (a < b)=false→(decide (a > b)=true→(1:Int)=o5 a b)∧(decide (a > b)=false→(0:Int)=o5 a b))))):=by kernel_rfl
theorem v141 (a b:Int) :d30 a b:=by
 rw[d1n]
 simp only[o5,a1j]; grind
theorem n141 (nm:List (Option AV)):CallOk Tryz.prog [] 141 (n6 EL none nm [.lf .i,.lf .i] c1e):=x4 Tryz.func141 d7n fun av pre rv h=>by
 unfold c1e at h; split at h <;> cases h
 exact⟨⟨rfl,fun t a e=>by cases e <;> exact z0h _ _⟩,fun hp=>⟨_,v141 _ _ ,rfl,(m4 (n181 _) t6),t7⟩⟩
theorem d7o:o6 Tryz.prog 142:=⟨Tryz.f142,Tryz.func142,by kernel_rfl,by kernel_rfl⟩
def d31 (a b:Int):Prop:=n7 (({ calls:=[kI1 182 a1j] }:Kit)).tab Tryz.f142 [.i .i64 a,.i .i64 b] [] (l4 (.i .i64 (o5 a b)))
theorem d1o (a b:Int):d31 a b=((a1j a=true→(a1j b=true→(0:Int)=o5 a b)∧(a1j b=false→(-1:Int)=o5 a b))∧(a1j a=false→(a1j b=true→(1:Int)=o5 a b)∧(a1j b=false→(decide (a < b)=true→(-1:Int)=o5 a b)∧(decide (a < b)=false→(decide (a > b)=true→(1:Int)=o5 a b)∧(decide (a > b)=false→(0:Int)=o5 a b))))):=by kernel_rfl
theorem v142 (a b:Int) :d31 a b:=by
 rw[d1o]
 simp only[o5,a1j]; grind
theorem n142 (nm:List (Option AV)):CallOk Tryz.prog [] 142 (n6 EL none nm [.lf .i,.lf .i] c1e):=x4 Tryz.func142 d7o fun av pre rv h=>by
 unfold c1e at h; split at h <;> cases h
 exact⟨⟨rfl,fun t a e=>by cases e <;> exact z0h _ _⟩,fun hp=>⟨_,v142 _ _ ,rfl,(m4 (n182 _) t6),t7⟩⟩
theorem d7p:o6 Tryz.prog 143:=⟨Tryz.f143,Tryz.func143,by kernel_rfl,by kernel_rfl⟩
def d32 (a b:Int):Prop:=n7 (({ calls:=[kI1 183 a1j] }:Kit)).tab Tryz.f143 [.i .i64 a,.i .i64 b] [] (l4 (.i .i64 (o5 a b)))
theorem d1p (a b:Int):d32 a b=((a1j a=true→(a1j b=true→(0:Int)=o5 a b)∧(a1j b=false→(-1:Int)=o5 a b))∧(a1j a=false→(a1j b=true→(1:Int)=o5 a b)∧(a1j b=false→(decide (a < b)=true→(-1:Int)=o5 a b)∧(decide (a < b)=false→(decide (a > b)=true→(1:Int)=o5 a b)∧(decide (a > b)=false→(0:Int)=o5 a b))))):=by kernel_rfl
theorem v143 (a b:Int) :d32 a b:=by
 rw[d1p]
 simp only[o5,a1j]; grind
theorem n143 (nm:List (Option AV)):CallOk Tryz.prog [] 143 (n6 EL none nm [.lf .i,.lf .i] c1e):=x4 Tryz.func143 d7p fun av pre rv h=>by
 unfold c1e at h; split at h <;> cases h
 exact⟨⟨rfl,fun t a e=>by cases e <;> exact z0h _ _⟩,fun hp=>⟨_,v143 _ _ ,rfl,(m4 (n183 _) t6),t7⟩⟩
theorem fo96:o6 Tryz.prog 96:=⟨Tryz.f96,Tryz.func96,by kernel_rfl,by kernel_rfl⟩
def q96D (l:List Int):Prop:=n7 (({ loops:=[(0,.of (lOr l 8))] }:Kit)).tab Tryz.f96 [.sl 0 l.length] [.arr l.length (j5 l)] (l4 (.i .i64 (orF l)))
theorem d6h (l:List Int):q96D l=(∃(x:PUnit),(∃(x:Nat),(x≤l.length∧∀(q:Nat),q < x→b6 (0:Int) l q=(0:Int))∧((0:Int)=(↑x:Int)∧True)∧True)∧∀(x_1:Nat),(x_1≤l.length∧∀(q:Nat),q < x_1→b6 (0:Int) l q=(0:Int))→(decide ((↑x_1:Int) < (↑l.length:Int))=true→((0:Int)≤(↑x_1:Int)∧(↑x_1:Int) < (↑l.length:Int))∧x_1 < l.length∧((b6 (0:Int) l x_1 != (0:Int))=true→b6 (0:Int) l x_1=orF l)∧((b6 (0:Int) l x_1 != (0:Int))=false→∃(x_2:Nat),(x_2≤l.length∧∀(q:Nat),q < x_2→b6 (0:Int) l q=(0:Int))∧((PLoop.of (lOr l (8:Nat))).ann x).mu x_2 < ((PLoop.of (lOr l (8:Nat))).ann x).mu x_1∧(l.length=l.length∧(0:Int)=(0:Int)∧l.length=l.length∧(↑l.length:Int)=(↑l.length:Int)∧IntKind.i64.wrap ((↑x_1:Int) + (1:Int))=(↑x_2:Int)∧True)∧eqA l.length (j5 l)∧True))∧(decide ((↑x_1:Int) < (↑l.length:Int))=false→(0:Int)=orF l)):=by kernel_rfl
theorem v96 (l:List Int) (h:L40 l.length):q96D l:=by
 rw[d6h]
 simp only[eq_self,true_and,and_true,z0o,imp_self,m5,m6,m9,g7,g9,PLoop.of,p9,AV.len,i5,z0s,j4,j7,j8,l7,l8,l9,lOr]
 refine⟨(),⟨0,⟨by omega,fun q hq=>absurd hq (z2k _)⟩,rfl⟩,fun j hj=>⟨fun hlt=>?_,fun hlt=>?_⟩⟩
 ·have h1:j < l.length:=by have:=z0e hlt; omega
  refine⟨⟨by omega,by omega⟩,h1,fun he=>?_,fun he=>⟨j + 1,⟨by omega,fun q hq=>?_⟩,by omega,wrS (n:=l.length) h1 h⟩⟩
  ·exact(c9p hj.2 h1 (by simpa using he)).symm
  ·by_cases e:q=j
   ·subst e; simpa using he
   ·exact hj.2 q (by omega)
 ·have h1:j=l.length:=by have:=z0m hlt; omega
  subst h1
  exact(c6o hj.2).symm
theorem n96 (nm:List (Option AV)):CallOk Tryz.prog [] 96 (n6 EL none nm [.lf .is] sOr):=x4 Tryz.func96 fo96 fun av pre rv h=>by
 unfold sOr at h; split at h <;> cases h
 exact⟨⟨rfl,fun t a e=>by cases e <;> exact z0h _ _⟩,fun hp=>⟨_,v96 _ (hp _ (.head _)),rfl,t6,t7⟩⟩
theorem fo98:o6 Tryz.prog 98:=⟨Tryz.f98,Tryz.func98,by kernel_rfl,by kernel_rfl⟩
def q98D (a b:Ev):Prop:=n7 (({ calls:=[c98 141,c98 142,c98 143,kOr (no 2 ++ [some (.is [o5 a.ag b.ag,o5 a.ix b.ix,o5 a.k b.k,o5 a.ob b.ob,o5 a.mu b.mu,o5 a.en b.en,o5 a.od b.od,o5 a.rd b.rd,o5 a.wr b.wr])])] }:Kit)).tab Tryz.f98 [a5m a,a5m b] [] (l4 (.i .i64 (a56 a b)))
theorem d6j (a b:Ev):q98D a b=((9:Nat)=(9:Nat)∧mkN (e8 [o5 a.ag b.ag,o5 a.ix b.ix,o5 a.k b.k,o5 a.ob b.ob,o5 a.mu b.mu,o5 a.en b.en,o5 a.od b.od,o5 a.rd b.rd,o5 a.wr b.wr]) (9:Nat)=[o5 a.ag b.ag,o5 a.ix b.ix,o5 a.k b.k,o5 a.ob b.ob,o5 a.mu b.mu,o5 a.en b.en,o5 a.od b.od,o5 a.rd b.rd,o5 a.wr b.wr]∧[o5 a.ag b.ag,o5 a.ix b.ix,o5 a.k b.k,o5 a.ob b.ob,o5 a.mu b.mu,o5 a.en b.en,o5 a.od b.od,o5 a.rd b.rd,o5 a.wr b.wr].length≤(1099511627776:Nat)∧orF [o5 a.ag b.ag,o5 a.ix b.ix,o5 a.k b.k,o5 a.ob b.ob,o5 a.mu b.mu,o5 a.en b.en,o5 a.od b.od,o5 a.rd b.rd,o5 a.wr b.wr]=a56 a b):=by kernel_rfl
theorem v98 (a b:Ev) :q98D a b:=by
 rw[d6j]
 simp only[eq_self,true_and,and_true,z0o,imp_self,m5,m6,m9,g7,g9,PLoop.of,p9,AV.len,i5,z0s,j4,j7,j8,l7,l8,l9]
 exact⟨rfl,by simp,rfl⟩
theorem n98 (nm:List (Option AV)):CallOk Tryz.prog [] 98 (n6 EL none nm [.lf .ev,.lf .ev] d4d):=x4 Tryz.func98 fo98 fun av pre rv h=>by
 unfold d4d at h; split at h <;> cases h
 exact⟨⟨rfl,fun t a e=>by cases e <;> exact z0h _ _⟩,fun hp=>⟨_,v98 _ _ ,rfl,(m4 (n141 _) (m4 (n142 _) (m4 (n143 _) (m4 (n96 _) t6)))),t7⟩⟩
theorem fo99:o6 Tryz.prog 99:=⟨Tryz.f99,Tryz.func99,by kernel_rfl,by kernel_rfl⟩
def q99D (l m:List Int):Prop:=n7 (({ calls:=[c98 141],loops:=[(0,.of (b8d o5 0 l m 11))] }:Kit)).tab Tryz.f99 [.sl 0 l.length,.sl 1 m.length] [.arr l.length (j5 l),.arr m.length (j5 m)] (l4 (.i .i64 (z7 o5 l m)))
theorem d6k (l m:List Int):q99D l m=(∃(x:PUnit),(∃(x:Nat),(x≤l.length∧x≤m.length∧∀(q:Nat),q < x→o5 (b6 (0:Int) l q) (b6 (0:Int) m q)=(0:Int))∧((0:Int)=(↑x:Int)∧True)∧True)∧∀(x_1:Nat),(x_1≤l.length∧x_1≤m.length∧∀(q:Nat),q < x_1→o5 (b6 (0:Int) l q) (b6 (0:Int) m q)=(0:Int))→(decide ((↑x_1:Int) < (↑l.length:Int))=true→((0:Int)≤(↑x_1:Int)∧(↑x_1:Int) < (↑l.length:Int))∧x_1 < l.length∧(decide ((↑x_1:Int) ≥ (↑m.length:Int))=true→(1:Int)=z7 o5 l m)∧(decide ((↑x_1:Int) ≥ (↑m.length:Int))=false→((0:Int)≤(↑x_1:Int)∧(↑x_1:Int) < (↑m.length:Int))∧x_1 < m.length∧((o5 (b6 (0:Int) l x_1) (b6 (0:Int) m x_1) != (0:Int))=true→o5 (b6 (0:Int) l x_1) (b6 (0:Int) m x_1)=z7 o5 l m)∧((o5 (b6 (0:Int) l x_1) (b6 (0:Int) m x_1) != (0:Int))=false→∃(x_2:Nat),(x_2≤l.length∧x_2≤m.length∧∀(q:Nat),q < x_2→o5 (b6 (0:Int) l q) (b6 (0:Int) m q)=(0:Int))∧((PLoop.of (b8d o5 (0:Int) l m (11:Nat))).ann x).mu x_2 < ((PLoop.of (b8d o5 (0:Int) l m (11:Nat))).ann x).mu x_1∧(l.length=l.length∧m.length=m.length∧l.length=l.length∧(↑l.length:Int)=(↑l.length:Int)∧IntKind.i64.wrap ((↑x_1:Int) + (1:Int))=(↑x_2:Int)∧True)∧eqA l.length (j5 l)∧eqA m.length (j5 m)∧True)))∧(decide ((↑x_1:Int) < (↑l.length:Int))=false→(decide ((↑l.length:Int) < (↑m.length:Int)) =
 true→(-1:Int)=z7 o5 l m)∧(decide ((↑l.length:Int) < (↑m.length:Int))=false→(0:Int)=z7 o5 l m))):=by kernel_rfl
theorem v99 (l m:List Int) (h:L40 l.length):q99D l m:=by
 rw[d6k]
 simp only[eq_self,true_and,and_true,z0o,imp_self,m5,m6,m9,g7,g9,PLoop.of,p9,AV.len,i5,z0s,j4,j7,j8,l7,l8,l9,b8d]
 refine⟨(),⟨0,⟨by omega,by omega,fun q hq=>absurd hq (z2k _)⟩,rfl⟩,fun j hj=>⟨fun hlt=>?_,fun hlt=>?_⟩⟩
 ·have h1:j < l.length:=by have:=z0e hlt; omega
  refine⟨⟨by omega,by omega⟩,h1,fun hm=>?_,fun hm=>?_⟩
  ·have h2:j=m.length:=by have:=z0e hm; omega
   subst h2
   rw[a8v (d:=(0:Int)) fun q _ h=>hj.2.2 q h]
   have:decide (m.length < l.length)=true:=by simp; omega
   rw[this]; rfl
  have h2:j < m.length:=by have:=z0m hm; omega
  refine⟨⟨by omega,by omega⟩,h2,fun he=>?_,fun he=>⟨j + 1,⟨by omega,by omega,fun q hq=>?_⟩,by omega,wrS (n:=l.length) h1 h⟩⟩
  ·exact(b7v (d:=(0:Int)) hj.2.2 h1 h2 (by simpa using he)).symm
  ·by_cases e:q=j
   ·subst e; simpa using he
   ·exact hj.2.2 q (by omega)
 ·have h1:j=l.length:=by have:=z0m hlt; omega
  subst h1
  rw[a8v (d:=(0:Int)) fun q h _=>hj.2.2 q h]
  have h3:decide (m.length < l.length)=false:=by have:=hj.2.1; simp; omega
  rw[h3,z0l]
  refine⟨fun h4=>?_,fun h4=>?_⟩
  ·have:decide (l.length < m.length)=true:=by have:=z0e h4; simp; omega
   rw[this]; rfl
  ·have:decide (l.length < m.length)=false:=by have:=z0m h4; simp; omega
   rw[this]; rfl
theorem n99 (nm:List (Option AV)):CallOk Tryz.prog [] 99 (n6 EL none nm [.lf .is,.lf .is] d4f):=x4 Tryz.func99 fo99 fun av pre rv h=>by
 unfold d4f at h; split at h <;> cases h
 exact⟨⟨rfl,fun t a e=>by cases e <;> exact z0h _ _⟩,fun hp=>⟨_,v99 _ _ (hp _ (.head _)),rfl,(m4 (n141 _) t6),t7⟩⟩
theorem fo97:o6 Tryz.prog 97:=⟨Tryz.f97,Tryz.func97,by kernel_rfl,by kernel_rfl⟩
def q97D (l m:List Ev):Prop:=n7 (({ calls:=[kCmE],loops:=[(0,.of (b8d a56 e0 l m 13))] }:Kit)).tab Tryz.f97 [.sl 0 l.length,.sl 1 m.length,.fn 98 []] [.arr l.length (l5 l),.arr m.length (l5 m)] (l4 (.i .i64 (z7 a56 l m)))
theorem d6i (l m:List Ev):q97D l m=(∃(x:PUnit),(∃(x:Nat),(x≤l.length∧x≤m.length∧∀(q:Nat),q < x→a56 (b6 e0 l q) (b6 e0 m q)=(0:Int))∧((0:Int)=(↑x:Int)∧True)∧True)∧∀(x_1:Nat),(x_1≤l.length∧x_1≤m.length∧∀(q:Nat),q < x_1→a56 (b6 e0 l q) (b6 e0 m q)=(0:Int))→(decide ((↑x_1:Int) < (↑l.length:Int))=true→((0:Int)≤(↑x_1:Int)∧(↑x_1:Int) < (↑l.length:Int))∧x_1 < l.length∧(decide ((↑x_1:Int) ≥ (↑m.length:Int))=true→(1:Int)=z7 a56 l m)∧(decide ((↑x_1:Int) ≥ (↑m.length:Int))=false→((0:Int)≤(↑x_1:Int)∧(↑x_1:Int) < (↑m.length:Int))∧x_1 < m.length∧((a56 (b6 e0 l x_1) (b6 e0 m x_1) != (0:Int))=true→a56 (b6 e0 l x_1) (b6 e0 m x_1)=z7 a56 l m)∧((a56 (b6 e0 l x_1) (b6 e0 m x_1) != (0:Int))=false→∃(x_2:Nat),(x_2≤l.length∧x_2≤m.length∧∀(q:Nat),q < x_2→a56 (b6 e0 l q) (b6 e0 m q)=(0:Int))∧((PLoop.of (b8d a56 e0 l m (13:Nat))).ann x).mu x_2 < ((PLoop.of (b8d a56 e0 l m (13:Nat))).ann x).mu x_1∧(l.length=l.length∧m.length=m.length∧True∧l.length=l.length∧(↑l.length:Int)=(↑l.length:Int)∧IntKind.i64.wrap ((↑x_1:Int) + (1:Int))=(↑x_2:Int)∧True)∧eqA l.length (l5 l)∧eqA m.length (l5 m)∧True)))∧(decide ((↑x_1:Int) < (↑l.length:Int))=false→(decide ((↑l.length:Int) < (↑m.length:Int))=true→(-1:Int)=z7 a56 l m)∧(decide ((↑l.length:Int) < (↑m.length:Int))=false
 → (0:Int)=z7 a56 l m))):=by kernel_rfl
theorem v97 (l m:List Ev) (h:L40 l.length):q97D l m:=by
 rw[d6i]
 simp only[eq_self,true_and,and_true,z0o,imp_self,m5,m6,m9,g7,g9,PLoop.of,p9,AV.len,i5,z0s,j4,j7,j8,l7,l8,l9,b8d]
 refine⟨(),⟨0,⟨by omega,by omega,fun q hq=>absurd hq (z2k _)⟩,rfl⟩,fun j hj=>⟨fun hlt=>?_,fun hlt=>?_⟩⟩
 ·have h1:j < l.length:=by have:=z0e hlt; omega
  refine⟨⟨by omega,by omega⟩,h1,fun hm=>?_,fun hm=>?_⟩
  ·have h2:j=m.length:=by have:=z0e hm; omega
   subst h2
   rw[a8v (d:=e0) fun q _ h=>hj.2.2 q h]
   have:decide (m.length < l.length)=true:=by simp; omega
   rw[this]; rfl
  have h2:j < m.length:=by have:=z0m hm; omega
  refine⟨⟨by omega,by omega⟩,h2,fun he=>?_,fun he=>⟨j + 1,⟨by omega,by omega,fun q hq=>?_⟩,by omega,wrS (n:=l.length) h1 h⟩⟩
  ·exact(b7v (d:=e0) hj.2.2 h1 h2 (by simpa using he)).symm
  ·by_cases e:q=j
   ·subst e; simpa using he
   ·exact hj.2.2 q (by omega)
 ·have h1:j=l.length:=by have:=z0m hlt; omega
  subst h1
  rw[a8v (d:=e0) fun q h _=>hj.2.2 q h]
  have h3:decide (m.length < l.length)=false:=by have:=hj.2.1; simp; omega
  rw[h3,z0l]
  refine⟨fun h4=>?_,fun h4=>?_⟩
  ·have:decide (l.length < m.length)=true:=by have:=z0e h4; simp; omega
   rw[this]; rfl
  ·have:decide (l.length < m.length)=false:=by have:=z0m h4; simp; omega
   rw[this]; rfl
theorem n97 (nm:List (Option AV)):CallOk Tryz.prog [] 97 (n6 EL none nm [.lf .es,.lf .es,.fc 98] d4e):=x4 Tryz.func97 fo97 fun av pre rv h=>by
 unfold d4e at h; split at h <;> cases h
 exact⟨⟨rfl,fun t a e=>by cases e <;> exact z0h _ _⟩,fun hp=>⟨_,v97 _ _ (hp _ (.head _)),rfl,(m4 (n98 _) t6),t7⟩⟩
theorem nthD_out {α:Type} (d:α):∀ {l:List α} {j:Nat},l.length≤j→b6 d l j=d:=by
 intro l
 induction l with
 | nil=>intro j _; rfl
 | cons x r ih =>
  intro j h
  cases j with
  | zero=>simp at h
  | succ j=>exact ih (by simpa using h)
theorem fo92:o6 Tryz.prog 92:=⟨Tryz.f92,Tryz.func92,by kernel_rfl,by kernel_rfl⟩
def q92D (a b:List (List Int)):Prop:=n7 (({ calls:=[kCmL []],loops:=[(0,.of (b4p a b 14))] }:Kit)).tab Tryz.f92 [.sl 0 a.length,.sl 1 b.length] [.arr a.length (j9 a),.arr b.length (j9 b)] (l4 (.i .i64 (b2p a b)))
theorem d6e (a b:List (List Int)):q92D a b=(∃(x:PUnit),(∃(x:Nat),((x≤if b.length > a.length then b.length else a.length)∧a1u (fun(x:Nat)=>z7 o5 (a0e a x) (a0e b x)) x=(0:Int))∧((0:Int)=(↑x:Int)∧True)∧True)∧∀(x_1:Nat),(x_1≤if b.length > a.length then b.length else a.length)∧a1u (fun(x:Nat)=>z7 o5 (a0e a x) (a0e b x)) x_1=(0:Int)→(decide ((↑x_1:Int) < if (↑b.length:Int) > (↑a.length:Int) then(↑b.length:Int) else(↑a.length:Int))=true→(decide ((↑x_1:Int) < (↑a.length:Int))=true→((0:Int)≤(↑x_1:Int)∧(↑x_1:Int) < (↑a.length:Int))∧x_1 < a.length∧(decide ((↑x_1:Int) < (↑b.length:Int))=true→((0:Int)≤(↑x_1:Int)∧(↑x_1:Int) < (↑b.length:Int))∧x_1 < b.length∧(b6 [] a x_1).length=(b6 [] a x_1).length∧(b6 [] b x_1).length=(b6 [] b x_1).length∧(mkN (fun(i:Nat)=>b6 (0:Int) (b6 [] a x_1) i) (b6 [] a x_1).length).length≤(1099511627776:Nat)∧((z7 o5 (mkN (fun(i:Nat)=>b6 (0:Int) (b6 [] a x_1) i) (b6 [] a x_1).length) (mkN (fun(i:Nat)=>b6 (0:Int) (b6 [] b x_1) i) (b6 [] b x_1).length) != (0:Int))=true→z7 o5 (mkN (fun(i:Nat)=>b6 (0:Int) (b6 [] a x_1) i) (b6 [] a x_1).length) (mkN (fun(i:Nat)=>b6 (0:Int) (b6 [] b x_1) i) (b6 [] b x_1).length)=b2p a b)∧((z7 o5 (mkN (fun(i:Nat)=>b6 (0:Int) (b6 [] a x_1) i) (b6 [] a x_1).length) (mkN (fun(i:Nat)=>b6 (0:Int) (b6 [] b x_1) i) (b6 []
 b x_1).length) != (0:Int))=false→∃(x_2:Nat),((x_2≤if b.length > a.length then b.length else a.length)∧a1u (fun(x:Nat)=>z7 o5 (a0e a x) (a0e b x)) x_2=(0:Int))∧((PLoop.of (b4p a b (14:Nat))).ann x).mu x_2 < ((PLoop.of (b4p a b (14:Nat))).ann x).mu x_1∧(a.length=a.length∧b.length=b.length∧a.length=a.length∧(↑a.length:Int)=(↑a.length:Int)∧b.length=b.length∧(↑b.length:Int)=(↑b.length:Int)∧((if (↑b.length:Int) > (↑a.length:Int) then(↑b.length:Int) else(↑a.length:Int))=if (↑b.length:Int) > (↑a.length:Int) then(↑b.length:Int) else(↑a.length:Int))∧IntKind.i64.wrap ((↑x_1:Int) + (1:Int))=(↑x_2:Int)∧True)∧eqA a.length (j9 a)∧eqA b.length (j9 b)∧True))∧(decide ((↑x_1:Int) < (↑b.length:Int))=false→(b6 [] a x_1).length=(b6 [] a x_1).length∧(0:Nat)=(0:Nat)∧(mkN (fun(i:Nat)=>b6 (0:Int) (b6 [] a x_1) i) (b6 [] a x_1).length).length≤(1099511627776:Nat)∧((z7 o5 (mkN (fun(i:Nat)=>b6 (0:Int) (b6 [] a x_1) i) (b6 [] a x_1).length) [] != (0:Int))=true→z7 o5 (mkN (fun(i:Nat)=>b6 (0:Int) (b6 [] a x_1) i) (b6 [] a x_1).length) []=b2p a b)∧((z7 o5 (mkN (fun(i:Nat)=>b6 (0:Int) (b6 [] a x_1) i) (b6 [] a x_1).length) [] != (0:Int))=false→∃(x_2:Nat),((x_2≤if b.length > a.length then b.length else a.length)∧a1u (fun(x:Nat)=>z7 o5 (a0e a x) (a0e b x)) x_2
 = (0:Int))∧((PLoop.of (b4p a b (14:Nat))).ann x).mu x_2 < ((PLoop.of (b4p a b (14:Nat))).ann x).mu x_1∧(a.length=a.length∧b.length=b.length∧a.length=a.length∧(↑a.length:Int)=(↑a.length:Int)∧b.length=b.length∧(↑b.length:Int)=(↑b.length:Int)∧((if (↑b.length:Int) > (↑a.length:Int) then(↑b.length:Int) else(↑a.length:Int))=if (↑b.length:Int) > (↑a.length:Int) then(↑b.length:Int) else(↑a.length:Int))∧IntKind.i64.wrap ((↑x_1:Int) + (1:Int))=(↑x_2:Int)∧True)∧eqA a.length (j9 a)∧eqA b.length (j9 b)∧True)))∧(decide ((↑x_1:Int) < (↑a.length:Int))=false→(decide ((↑x_1:Int) < (↑b.length:Int))=true→((0:Int)≤(↑x_1:Int)∧(↑x_1:Int) < (↑b.length:Int))∧x_1 < b.length∧(0:Nat)=(0:Nat)∧(b6 [] b x_1).length=(b6 [] b x_1).length∧([]:List Pq).length≤(1099511627776:Nat)∧((z7 o5 [] (mkN (fun(i:Nat)=>b6 (0:Int) (b6 [] b x_1) i) (b6 [] b x_1).length) != (0:Int))=true→z7 o5 [] (mkN (fun(i:Nat)=>b6 (0:Int) (b6 [] b x_1) i) (b6 [] b x_1).length)=b2p a b)∧((z7 o5 [] (mkN (fun(i:Nat)=>b6 (0:Int) (b6 [] b x_1) i) (b6 [] b x_1).length) != (0:Int))=false→∃(x_2:Nat),((x_2≤if b.length > a.length then b.length else a.length)∧a1u (fun(x:Nat)=>z7 o5 (a0e a x) (a0e b x)) x_2=(0:Int))∧((PLoop.of (b4p a b (14:Nat))).ann x).mu x_2 < ((PLoop.of (b4p a b (14:Nat))).ann x).mu
 x_1∧(a.length=a.length∧b.length=b.length∧a.length=a.length∧(↑a.length:Int)=(↑a.length:Int)∧b.length=b.length∧(↑b.length:Int)=(↑b.length:Int)∧((if (↑b.length:Int) > (↑a.length:Int) then(↑b.length:Int) else(↑a.length:Int))=if (↑b.length:Int) > (↑a.length:Int) then(↑b.length:Int) else(↑a.length:Int))∧IntKind.i64.wrap ((↑x_1:Int) + (1:Int))=(↑x_2:Int)∧True)∧eqA a.length (j9 a)∧eqA b.length (j9 b)∧True))∧(decide ((↑x_1:Int) < (↑b.length:Int))=false→(0:Nat)=(0:Nat)∧(0:Nat)=(0:Nat)∧([]:List Pq).length≤(1099511627776:Nat)∧((z7 o5 [] [] != (0:Int))=true→z7 o5 [] []=b2p a b)∧((z7 o5 [] [] != (0:Int))=false→∃(x_2:Nat),((x_2≤if b.length > a.length then b.length else a.length)∧a1u (fun(x:Nat)=>z7 o5 (a0e a x) (a0e b x)) x_2=(0:Int))∧((PLoop.of (b4p a b (14:Nat))).ann x).mu x_2 < ((PLoop.of (b4p a b (14:Nat))).ann x).mu x_1∧(a.length=a.length∧b.length=b.length∧a.length=a.length∧(↑a.length:Int)=(↑a.length:Int)∧b.length=b.length∧(↑b.length:Int)=(↑b.length:Int)∧((if (↑b.length:Int) > (↑a.length:Int) then(↑b.length:Int) else(↑a.length:Int))=if (↑b.length:Int) > (↑a.length:Int) then(↑b.length:Int) else(↑a.length:Int))∧IntKind.i64.wrap ((↑x_1:Int) + (1:Int))=(↑x_2:Int)∧True)∧eqA a.length (j9 a)∧eqA b.length (j9 b)∧True))))∧(decide ((↑x_1
 : Int) < if (↑b.length:Int) > (↑a.length:Int) then(↑b.length:Int) else(↑a.length:Int))=false→(0:Int)=b2p a b)):=by kernel_rfl
theorem v92 (a b:List (List Int)) (h:(L40 a.length∧L40 b.length)∧SzR a):q92D a b:=by
 rw[d6e]
 obtain⟨⟨ha,hb⟩,hr⟩:=h
 have ha:a.length≤1099511627776:=ha
 have hb:b.length≤1099511627776:=hb
 have hra:∀ x,x < a.length→(b6 [] a x).length≤1099511627776:=fun o ho=>hr _ (by rw[q8 [] a _ ho]; exact z2e ho)
 simp only[eq_self,true_and,and_true,z0o,imp_self,m5,m6,m9,g7,g9,PLoop.of,p9,AV.len,i5,z0s,j4,j7,j8,l7,l8,l9,b4p]
 have hN:(if (b.length:Int) > (a.length:Int) then(b.length:Int) else(a.length:Int))=((if b.length > a.length then b.length else a.length:Nat):Int):=by
  split <;> split <;> omega
 have hN2:(if b.length > a.length then b.length else a.length)≤1099511627776:=by split <;> omega
 have hM:b2p a b=a1u (fun x=>z7 o5 (a0e a x) (a0e b x)) (if b.length > a.length then b.length else a.length):=rfl
 rw[hN,hM]
 generalize (if b.length > a.length then b.length else a.length)=N at *
 refine⟨(),⟨0,⟨by omega,rfl⟩,rfl⟩,fun j hj=>⟨fun hlt=>?_,fun hlt=>?_⟩⟩
 ·have h1:j < N:=by have:=z0e hlt; omega
  have yes:∀ {l m:List Int},a0e a j=l→a0e b j=m→(z7 o5 l m != 0)=true→z7 o5 l m=a1u (fun x=>z7 o5 (a0e a x) (a0e b x)) N:=fun {l m} e1 e2 hne=>by
   subst e1; subst e2
   exact(c5r (f:=fun x=>z7 o5 (a0e a x) (a0e b x)) hj.2 (by simpa using hne) h1).symm
  have no:∀ {l m:List Int},a0e a j=l→a0e b j=m→(z7 o5 l m != 0)=false→∃ x_2:Nat,(x_2≤N∧a1u (fun x=>z7 o5 (a0e a x) (a0e b x)) x_2=0)∧N - x_2 < N - j∧IntKind.i64.wrap ((j:Int) + 1)=(x_2:Int):=fun {l m} e1 e2 hne=>by
   subst e1; subst e2
   exact⟨j + 1,⟨by omega,c0f hj.2 (by simpa using hne)⟩,by omega,wrS (n:=N) h1 hN2⟩
  have oa:¬ j < a.length→a0e a j=[]:=fun h=>nthD_out _ (by omega)
  have ob:¬ j < b.length→a0e b j=[]:=fun h=>nthD_out _ (by omega)
  refine⟨fun h2=>?_,fun h2=>?_⟩
  ·have h2:j < a.length:=by have:=z0e h2; omega
   refine⟨⟨by omega,by omega⟩,h2,fun h3=>?_,fun h3=>?_⟩
   ·have h3:j < b.length:=by have:=z0e h3; omega
    exact⟨⟨by omega,by omega⟩,h3,hra j h2,yes rfl rfl,no rfl rfl⟩
   ·have h3:¬ j < b.length:=by have:=z0m h3; omega
    exact⟨hra j h2,yes rfl (ob h3),no rfl (ob h3)⟩
  ·have h2:¬ j < a.length:=by have:=z0m h2; omega
   refine⟨fun h3=>?_,fun h3=>?_⟩
   ·have h3:j < b.length:=by have:=z0e h3; omega
    exact⟨⟨by omega,by omega⟩,h3,by simp,yes (oa h2) rfl,no (oa h2) rfl⟩
   ·have h3:¬ j < b.length:=by have:=z0m h3; omega
    exact⟨by simp,yes (oa h2) (ob h3),no (oa h2) (ob h3)⟩
 ·have h1:j=N:=by have:=z0m hlt; omega
  rw[← h1]; exact hj.2.symm
theorem n92 (nm:List (Option AV)):CallOk Tryz.prog [] 92 (n6 EL none nm [.lf .rs,.lf .rs] d4g):=x4 Tryz.func92 fo92 fun av pre rv h=>by
 unfold d4g at h; split at h <;> cases h
 exact⟨⟨rfl,fun t a e=>by cases e <;> exact z0h _ _⟩,fun hp=>⟨_,v92 _ _ (hp _ (.head _)),rfl,(m4 (n99 _) t6),t7⟩⟩
def mpA {α β:Type} (f:α→β) (d:α) (l:List α):Nat→List β
 | 0=>[]
 | q + 1=>mpA f d l q ++ [f (b6 d l q)]
theorem c29 {α β:Type} (f:α→β) (d:α) (l:List α):∀ q,(mpA f d l q).length=q:=by
 intro q
 induction q with
 | zero=>rfl
 | succ q ih=>simp[mpA,ih]
theorem c6b {α β:Type} (f:α→β) (d:α) (l:List α):∀ q,q≤l.length→mpA f d l q=(l.take q).map f:=by
 intro q
 induction q with
 | zero=>intro _; simp[mpA]
 | succ q ih =>
  intro h
  rw[mpA,ih (by omega),List.take_succ_eq_append_getElem (by omega),q8 d l q (by omega),List.map_append,List.map_singleton]
theorem b1u {α β:Type} (f:α→β) (d:α) (l:List α):mpA f d l l.length=l.map f:=by
 rw[c6b f d l _ (z0q _),z3m]
def toB:Int→Option Int:=fun a=>bif a == -2 then some (-2) else bif a == -1 then some (-1) else none
def toM (L:List Int):Int→Option Int:=a48 toB L L.length
def toF (L:List Int) (i:Int):Int:=a1e (toM L i)
def arE (E:List Ev) (L:List Int):List Ev:=L.map (evA E)
def arR (R:List Int) (L:List Int):List Int:=L.map (fun i=>toF L (inA R i))
def arM (M:List (List Int)) (L:List Int):List (List Int):=M.map (fun r=>r.map (toF L))
def lA1 (L:List Int) (t r:Nat):LAnn:=p9 L.length t (fun _=>True) (fun j=>[(r,.mapi .i64 (some .i64) (a48 toB L j))]) []
def lA2 (E:List Ev) (R:List Int) (L:List Int) (t c a b r:Nat):LAnn:=p9 L.length t (fun _=>True) (fun j=>[(c,.cells [.sl a j,.sl b j,.sl r 0]),(a,.oarr 85 j (l5 (mpA (evA E) 0 L j))),(b,.oarr 3 j (j5 (mpA (fun i=>toF L (inA R i)) 0 L j)))]) [a,b]
def lA3 (M:List (List Int)) (L:List Int) (t c a b r:Nat):LAnn:=p9 M.length t (fun _=>True) (fun o=>[(c,.cells [.sl a L.length,.sl b L.length,.sl r o]),(r,.oarr 23 o (j9 (mpA (fun q=>q.map (toF L)) [] M o)))]) [r]
def lA4 (M:List (List Int)) (L:List Int) (t s e:Nat):PLoop:=⟨Nat,fun o=>{ X:=Nat,inv:=fun q=>q≤(a0e M o).length∧o < M.length,slots:=fun q=>[(t,.i .i64 (q:Int)),(s,.sl e q)],mem:=fun q=>[(e,.oarr 3 q (j5 (mpA (toF L) 0 (a0e M o) q)))],mu:=fun q=>(a0e M o).length - q,kill:=[e] }⟩
def inO (E:List Ev) (L:List Int):Prop:=∀ i∈L,0≤i∧i < E.length
def pcA (E:List Ev) (R:List Int) (M:List (List Int)) (L:List Int):Prop:=(L.length≤64∧R.length=E.length∧M.length≤8)∧SzR M∧inO E L
def d48:SpG:=fun
 | [.ag [.es E,.is R,.rs M],.lf (.is L)]=>some ([pcA E R M L],.gr none (arE E L) (arR R L) (arM M L))
 | _=>none
def kArr (nm:List (Option AV)):Nat × (List MBlk→List SV→Option AR):=(65,n6 EL none nm [PG,.lf .is] d48)
section
variable {α β:Type} {f:α→β} {d:α} {l:List α} {b:β}
theorem c6c {q:Nat}:b6 b (mpA f d l (q + 1)) q=f (b6 d l q):=by
 have h:=b1w b (l:=mpA f d l q) (x:=f (b6 d l q))
 rwa [c29] at h
theorem c6e {q j:Nat} (h:j < q):b6 b (mpA f d l (q + 1)) j=b6 b (mpA f d l q) j:=a9h b (by rw[c29]; exact h)
theorem b67 {j q:Nat} (h:Nat.blt j q=false) (hj:j < q + 1):j=q:=by
 have:¬ j < q:=fun h'=>by rw[← z0y] at h'; rw[h] at h'; cases h'
 omega
theorem a5c (g:β→Int) {q:Nat} {x:Int} (hx:x=g (f (b6 d l q))):∀ j,j < q + 1→(bif Nat.blt j q then g (b6 b (mpA f d l q) j) else e8 [x] (j - q))=g (b6 b (mpA f d l (q + 1)) j):=fun j hj=>by
 cases h:Nat.blt j q
 ·obtain rfl:=b67 h hj
  rw[z0l,c6c,hx]
  rfl
 ·rw[z0g,c6e (by rwa [z0y] at h)]
end
theorem c6d {α:Type} {f:α→Int} {d:α} {l:List α} {q:Nat} {x:Int} (hx:x=f (b6 d l q)):∀ j,j < q + 1→(bif Nat.blt j q then b6 0 (mpA f d l q) j else e8 [x] (j - q))=b6 0 (mpA f d l (q + 1)) j:=a5c (fun x=>x) hx
theorem fo65:o6 Tryz.prog 65:=⟨Tryz.f65,Tryz.func65,by kernel_rfl,by kernel_rfl⟩
def q65D (E:List Ev) (R:List Int) (M:List (List Int)) (L:List Int):Prop:=n7 (({ loops:=[(0,.of (lA1 L 20 6)),(2,.of (lA2 E R L 31 7 8 9 10)),(4,.of (lA3 M L 61 7 8 9 10)),(6,lA4 M L 67 13 12)],takes:=[(8,fun _ _=>[.fresh 7 0 85 9,.fresh 7 1 3 1,.fresh 7 2 23 1,.cols 10 (j9 [])])] }:Kit)).tab Tryz.f65 [grV E R M,.sl 3 L.length] (grM E R M ++ [.arr L.length (j5 L)]) ((QV.gr none (arE E L) (arR R L) (arM M L)).post EL)
theorem d64 (E:List Ev) (R:List Int) (M:List (List Int)) (L:List Int):q65D E R M L=(∃(x:PUnit),(∃(x:Nat),(x≤L.length∧True)∧((0:Int)=(↑x:Int)∧True)∧(∀(x_1:Int),(bif x_1 == (-2:Int) then some (-2:Int) else bif x_1 == (-1:Int) then some (-1:Int) else none)=a48 toB L x x_1)∧True)∧∀(x_1:Nat),x_1≤L.length∧True→(decide ((↑x_1:Int) < (↑L.length:Int))=true→((0:Int)≤(↑x_1:Int)∧(↑x_1:Int) < (↑L.length:Int))∧x_1 < L.length∧∃(x_2:Nat),(x_2≤L.length∧True)∧((PLoop.of (lA1 L (20:Nat) (6:Nat))).ann x).mu x_2 < ((PLoop.of (lA1 L (20:Nat) (6:Nat))).ann x).mu x_1∧((E.length=E.length∧R.length=R.length∧M.length=M.length)∧L.length=L.length∧True∧True∧True∧True∧True∧L.length=L.length∧(↑L.length:Int)=(↑L.length:Int)∧IntKind.i64.wrap ((↑x_1:Int) + (1:Int))=(↑x_2:Int)∧True)∧eqA E.length (l5 E)∧eqA R.length (j5 R)∧eqA M.length (j9 M)∧eqA L.length (j5 L)∧(E.length=E.length∧R.length=R.length∧M.length=M.length)∧(True∧True∧True)∧(∀(x:Int),(bif x == b6 (0:Int) L x_1 then some (↑x_1:Int) else a48 toB L x_1 x)=a48 toB L x_2 x)∧True)∧(decide ((↑x_1:Int) < (↑L.length:Int))=false→(0:Nat)=(0:Nat)∧∃(x:PUnit),(∃(x:Nat),(x≤L.length∧True)∧((0:Int)=(↑x:Int)∧True)∧((0:Nat)=x∧(0:Nat)=x∧(0:Nat)=(0:Nat))∧((0:Nat)=x∧x=(0:Nat)∧x=(0:Nat)∧x=(0:Nat)∧x=(0:Nat)∧x=(0:Nat)∧x=(0:Nat)∧x=(0:Nat)∧x=(0 :
 Nat)∧x=(0:Nat)∧True)∧((0:Nat)=x∧x=(0:Nat)∧True)∧True)∧∀(x_2:Nat),x_2≤L.length∧True→(decide ((↑x_2:Int) < (↑L.length:Int))=true→((0:Int)≤(↑x_2:Int)∧(↑x_2:Int) < (↑L.length:Int))∧x_2 < L.length∧((0:Int)≤b6 (0:Int) L x_2∧b6 (0:Int) L x_2 < (↑E.length:Int))∧(b6 (0:Int) L x_2).toNat < E.length∧x_2=x_2∧(1:Nat)=(1:Nat)∧(x_2 + (1:Nat)) * (72:Nat)≤(140737488355328:Nat)∧x_2 + (1:Nat)≤(9223372036854775807:Nat)∧((0:Int)≤b6 (0:Int) L x_2∧b6 (0:Int) L x_2 < (↑R.length:Int))∧(b6 (0:Int) L x_2).toNat < R.length∧x_2=x_2∧(1:Nat)=(1:Nat)∧(x_2 + (1:Nat)) * (8:Nat)≤(140737488355328:Nat)∧x_2 + (1:Nat)≤(9223372036854775807:Nat)∧∃(x_3:Nat),(x_3≤L.length∧True)∧((PLoop.of (lA2 E R L (31:Nat) (7:Nat) (8:Nat) (9:Nat) (10:Nat))).ann x).mu x_3 < ((PLoop.of (lA2 E R L (31:Nat) (7:Nat) (8:Nat) (9:Nat) (10:Nat))).ann x).mu x_2∧((E.length=E.length∧R.length=R.length∧M.length=M.length)∧L.length=L.length∧True∧True∧True∧True∧True∧True∧L.length=L.length∧(↑L.length:Int)=(↑L.length:Int)∧(↑x_1:Int)=(↑x_1:Int)∧false=false∧L.length=L.length∧(↑L.length:Int)=(↑L.length:Int)∧IntKind.i64.wrap ((↑x_2:Int) + (1:Int))=(↑x_3:Int)∧True)∧eqA E.length (l5 E)∧eqA R.length (j5 R)∧eqA M.length (j9 M)∧eqA L.length (j5 L)∧(E.length =
 E.length∧R.length=R.length∧M.length=M.length)∧(True∧True∧True)∧(∀(x:Int),a48 toB L x_1 x=a48 toB L x_1 x)∧(x_2 + (1:Nat)=x_3∧x_2 + (1:Nat)=x_3∧(0:Nat)=(0:Nat))∧(x_2 + (1:Nat)=x_3∧(∀(j:Nat),j < x_3→(bif j.blt x_2 then(b6 e0 (mpA (evA E) (0:Int) L x_2) j).ag else e8 [(b6 e0 E (b6 (0:Int) L x_2).toNat).ag] (j - x_2))=(b6 e0 (mpA (evA E) (0:Int) L x_3) j).ag)∧(∀(j:Nat),j < x_3→(bif j.blt x_2 then(b6 e0 (mpA (evA E) (0:Int) L x_2) j).ix else e8 [(b6 e0 E (b6 (0:Int) L x_2).toNat).ix] (j - x_2))=(b6 e0 (mpA (evA E) (0:Int) L x_3) j).ix)∧(∀(j:Nat),j < x_3→(bif j.blt x_2 then(b6 e0 (mpA (evA E) (0:Int) L x_2) j).k else e8 [(b6 e0 E (b6 (0:Int) L x_2).toNat).k] (j - x_2))=(b6 e0 (mpA (evA E) (0:Int) L x_3) j).k)∧(∀(j:Nat),j < x_3→(bif j.blt x_2 then(b6 e0 (mpA (evA E) (0:Int) L x_2) j).ob else e8 [(b6 e0 E (b6 (0:Int) L x_2).toNat).ob] (j - x_2))=(b6 e0 (mpA (evA E) (0:Int) L x_3) j).ob)∧(∀(j:Nat),j < x_3→(bif j.blt x_2 then(b6 e0 (mpA (evA E) (0:Int) L x_2) j).mu else e8 [(b6 e0 E (b6 (0:Int) L x_2).toNat).mu] (j - x_2))=(b6 e0 (mpA (evA E) (0:Int) L x_3) j).mu)∧(∀(j:Nat),j < x_3→(bif j.blt x_2 then(b6 e0 (mpA (evA E) (0:Int) L x_2) j).en else e8 [(b6 e0 E (b6 (0:Int) L x_2).toNat).en] (j - x_2))=(b6 e0 (mpA (evA E) (0:Int) L x_3) j).en)∧(∀(j:Nat),j < x_3→(bif
 j.blt x_2 then(b6 e0 (mpA (evA E) (0:Int) L x_2) j).od else e8 [(b6 e0 E (b6 (0:Int) L x_2).toNat).od] (j - x_2))=(b6 e0 (mpA (evA E) (0:Int) L x_3) j).od)∧(∀(j:Nat),j < x_3→(bif j.blt x_2 then(b6 e0 (mpA (evA E) (0:Int) L x_2) j).rd else e8 [(b6 e0 E (b6 (0:Int) L x_2).toNat).rd] (j - x_2))=(b6 e0 (mpA (evA E) (0:Int) L x_3) j).rd)∧(∀(j:Nat),j < x_3→(bif j.blt x_2 then(b6 e0 (mpA (evA E) (0:Int) L x_2) j).wr else e8 [(b6 e0 E (b6 (0:Int) L x_2).toNat).wr] (j - x_2))=(b6 e0 (mpA (evA E) (0:Int) L x_3) j).wr)∧True)∧(x_2 + (1:Nat)=x_3∧(∀(j:Nat),j < x_3→(bif j.blt x_2 then b6 (0:Int) (mpA (fun(i:Int)=>toF L (inA R i)) (0:Int) L x_2) j else e8 [a1e (a48 toB L x_1 (b6 (0:Int) R (b6 (0:Int) L x_2).toNat))] (j - x_2))=b6 (0:Int) (mpA (fun(i:Int)=>toF L (inA R i)) (0:Int) L x_3) j)∧True)∧eqA (0:Nat) (j9 [])∧True)∧(decide ((↑x_2:Int) < (↑L.length:Int))=false→∃(x:PUnit),(∃(x:Nat),(x≤M.length∧True)∧((0:Int)=(↑x:Int)∧True)∧(x_2=L.length∧x_2=L.length∧(0:Nat)=x)∧((0:Nat)=x∧((∀(j:Nat),j < x→(b6 ([]:List Int) [] j).length=(b6 [] (mpA (fun(q:List Int)=>List.map (toF L) q) [] M x) j).length)∧(∀(j:Nat),j < x→∀(i:Nat),i < (b6 [] (mpA (fun(q:List Int)=>List.map (toF L) q) [] M x) j).length→b6 (0:Int) (b6 ([]:List Int) [] j) i=b6 (0:Int) (b6 [] (mpA
 (fun(q:List Int)=>List.map (toF L) q) [] M x) j) i)∧True)∧True)∧True)∧∀(x_3:Nat),x_3≤M.length∧True→(decide ((↑x_3:Int) < (↑M.length:Int))=true→((0:Int)≤(↑x_3:Int)∧(↑x_3:Int) < (↑M.length:Int))∧x_3 < M.length∧∃(x_4:Nat),(∃(x:Nat),(x≤(a0e M x_4).length∧x_4 < M.length)∧((0:Int)=(↑x:Int)∧(0:Nat)=x∧True)∧((0:Nat)=x∧x=(0:Nat)∧True)∧True)∧∀(x_5:Nat),x_5≤(a0e M x_4).length∧x_4 < M.length→(decide ((↑x_5:Int) < (↑(b6 [] M x_3).length:Int))=true→((0:Int)≤(↑x_5:Int)∧(↑x_5:Int) < (↑(b6 [] M x_3).length:Int))∧x_5 < (b6 [] M x_3).length∧x_5=x_5∧(1:Nat)=(1:Nat)∧(x_5 + (1:Nat)) * (8:Nat)≤(140737488355328:Nat)∧x_5 + (1:Nat)≤(9223372036854775807:Nat)∧∃(x:Nat),(x≤(a0e M x_4).length∧x_4 < M.length)∧((lA4 M L (67:Nat) (13:Nat) (12:Nat)).ann x_4).mu x < ((lA4 M L (67:Nat) (13:Nat) (12:Nat)).ann x_4).mu x_5∧((E.length=E.length∧R.length=R.length∧M.length=M.length)∧L.length=L.length∧True∧True∧True∧True∧(b6 [] M x_3).length=(b6 [] M x_3).length∧x_5 + (1:Nat)=x∧True∧True∧L.length=L.length∧(↑L.length:Int)=(↑L.length:Int)∧(↑x_1:Int)=(↑x_1:Int)∧false=false∧L.length=L.length∧(↑L.length:Int)=(↑L.length:Int)∧(↑x_2:Int)=(↑x_2:Int)∧false=false∧True∧M.length=M.length∧(↑M.length:Int)=(↑M.length:Int)∧(↑x_3:Int)=(↑x_3 :
 Int)∧true=true∧x_3=x_3∧(b6 [] M x_3).length=(b6 [] M x_3).length∧(b6 [] M x_3).length=(b6 [] M x_3).length∧(↑(b6 [] M x_3).length:Int)=(↑(b6 [] M x_3).length:Int)∧IntKind.i64.wrap ((↑x_5:Int) + (1:Int))=(↑x:Int)∧True)∧eqA E.length (l5 E)∧eqA R.length (j5 R)∧eqA M.length (j9 M)∧eqA L.length (j5 L)∧(E.length=E.length∧R.length=R.length∧M.length=M.length)∧(True∧True∧True)∧(∀(x:Int),a48 toB L x_1 x=a48 toB L x_1 x)∧(L.length=L.length∧L.length=L.length∧x_3=x_3)∧eqA x_2 (l5 (mpA (evA E) (0:Int) L x_2))∧eqA x_2 (j5 (mpA (fun(i:Int)=>toF L (inA R i)) (0:Int) L x_2))∧eqA x_3 (j9 (mpA (fun(q:List Int)=>List.map (toF L) q) [] M x_3))∧eqA (b6 [] M x_3).length [Col.int IntKind.i64 fun(i:Nat)=>b6 (0:Int) (b6 [] M x_3) i]∧(x_5 + (1:Nat)=x∧(∀(j:Nat),j < x→(bif j.blt x_5 then b6 (0:Int) (mpA (toF L) (0:Int) (a0e M x_4) x_5) j else e8 [a1e (a48 toB L x_1 (b6 (0:Int) (b6 [] M x_3) x_5))] (j - x_5))=b6 (0:Int) (mpA (toF L) (0:Int) (a0e M x_4) x) j)∧True)∧True)∧(decide ((↑x_5:Int) < (↑(b6 [] M x_3).length:Int))=false→x_5=x_5∧x_3=x_3∧(1:Nat)=(1:Nat)∧(x_3 + (1:Nat)) * (24:Nat)≤(140737488355328:Nat)∧x_3 + (1:Nat)≤(9223372036854775807:Nat)∧∃(x_6:Nat),(x_6≤M.length∧True)∧((PLoop.of (lA3 M L (61:Nat) (7:Nat) (8:Nat) (9:Nat) (10 :
 Nat))).ann x).mu x_6 < ((PLoop.of (lA3 M L (61:Nat) (7:Nat) (8:Nat) (9:Nat) (10:Nat))).ann x).mu x_3∧((E.length=E.length∧R.length=R.length∧M.length=M.length)∧L.length=L.length∧True∧True∧True∧True∧True∧True∧L.length=L.length∧(↑L.length:Int)=(↑L.length:Int)∧(↑x_1:Int)=(↑x_1:Int)∧false=false∧L.length=L.length∧(↑L.length:Int)=(↑L.length:Int)∧(↑x_2:Int)=(↑x_2:Int)∧false=false∧True∧M.length=M.length∧(↑M.length:Int)=(↑M.length:Int)∧IntKind.i64.wrap ((↑x_3:Int) + (1:Int))=(↑x_6:Int)∧True)∧eqA E.length (l5 E)∧eqA R.length (j5 R)∧eqA M.length (j9 M)∧eqA L.length (j5 L)∧(E.length=E.length∧R.length=R.length∧M.length=M.length)∧(True∧True∧True)∧(∀(x:Int),a48 toB L x_1 x=a48 toB L x_1 x)∧(L.length=L.length∧L.length=L.length∧x_3 + (1:Nat)=x_6)∧eqA x_2 (l5 (mpA (evA E) (0:Int) L x_2))∧eqA x_2 (j5 (mpA (fun(i:Int)=>toF L (inA R i)) (0:Int) L x_2))∧(x_3 + (1:Nat)=x_6∧((∀(j:Nat),j < x_6→(bif j.blt x_3 then(b6 [] (mpA (fun(q:List Int)=>List.map (toF L) q) [] M x_3) j).length else x_5)=(b6 [] (mpA (fun(q:List Int)=>List.map (toF L) q) [] M x_6) j).length)∧(∀(j:Nat),j < x_6→∀(i:Nat),i < (b6 [] (mpA (fun(q:List Int)=>List.map (toF L) q) [] M x_6) j).length→(bif j.blt x_3 then fun(i:Nat)=>b6 (0:Int) (b6 [] (mpA (fun(q:List Int)=>List.map
 (toF L) q) [] M x_3) j) i else b6 (0:Int) (mpA (toF L) (0:Int) (a0e M x_4) x_5)) i=b6 (0:Int) (b6 [] (mpA (fun(q:List Int)=>List.map (toF L) q) [] M x_6) j) i)∧True)∧True)∧True))∧(decide ((↑x_3:Int) < (↑M.length:Int))=false→(L.length=(arE E L).length∧x_2=(arE E L).length∧(∀(j:Nat),j < (arE E L).length→(b6 e0 (mpA (evA E) (0:Int) L x_2) j).ag=(b6 e0 (arE E L) j).ag)∧(∀(j:Nat),j < (arE E L).length→(b6 e0 (mpA (evA E) (0:Int) L x_2) j).ix=(b6 e0 (arE E L) j).ix)∧(∀(j:Nat),j < (arE E L).length→(b6 e0 (mpA (evA E) (0:Int) L x_2) j).k=(b6 e0 (arE E L) j).k)∧(∀(j:Nat),j < (arE E L).length→(b6 e0 (mpA (evA E) (0:Int) L x_2) j).ob=(b6 e0 (arE E L) j).ob)∧(∀(j:Nat),j < (arE E L).length→(b6 e0 (mpA (evA E) (0:Int) L x_2) j).mu=(b6 e0 (arE E L) j).mu)∧(∀(j:Nat),j < (arE E L).length→(b6 e0 (mpA (evA E) (0:Int) L x_2) j).en=(b6 e0 (arE E L) j).en)∧(∀(j:Nat),j < (arE E L).length→(b6 e0 (mpA (evA E) (0:Int) L x_2) j).od=(b6 e0 (arE E L) j).od)∧(∀(j:Nat),j < (arE E L).length→(b6 e0 (mpA (evA E) (0:Int) L x_2) j).rd=(b6 e0 (arE E L) j).rd)∧(∀(j:Nat),j < (arE E L).length→(b6 e0 (mpA (evA E) (0:Int) L x_2) j).wr=(b6 e0 (arE E L) j).wr)∧True)∧(L.length=(arR R L).length∧x_2=(arR R L).length∧(∀(j:Nat),j < (arR R L).length→b6 (0:Int) (mpA (fun(i:Int)=>toF L (inA R i)) (0:Int) L x_2) j =
 b6 (0:Int) (arR R L) j)∧True)∧x_3=(arM M L).length∧x_3=(arM M L).length∧((∀(j:Nat),j < (arM M L).length→(b6 [] (mpA (fun(q:List Int)=>List.map (toF L) q) [] M x_3) j).length=(b6 [] (arM M L) j).length)∧(∀(j:Nat),j < (arM M L).length→∀(i:Nat),i < (b6 [] (arM M L) j).length→b6 (0:Int) (b6 [] (mpA (fun(q:List Int)=>List.map (toF L) q) [] M x_3) j) i=b6 (0:Int) (b6 [] (arM M L) j) i)∧True)∧True)))):=by kernel_rfl
theorem v65 (E:List Ev) (R:List Int) (M:List (List Int)) (L:List Int) (h:pcA E R M L):q65D E R M L:=by
 rw[d64]
 obtain⟨⟨hL,hR,hM⟩,hS,hO⟩:=h
 have hrow:∀ o,o < M.length→(b6 [] M o).length≤1099511627776:=fun o ho=>hS _ (by rw[q8 [] M _ ho]; exact z2e ho)
 have hin:∀ j,j < L.length→0≤b6 0 L j∧b6 0 L j < E.length:=fun j hj=>hO _ (by rw[q8 0 L _ hj]; exact z2e hj)
 simp only[eq_self,true_and,and_true,z0o,imp_self,m5,m6,m9,g7,g9,PLoop.of,p9,AV.len,i5,z0s,j4,j7,j8,l7,l8,l9,lA1,lA2,lA3,lA4]
 refine⟨(),⟨0,by omega,rfl,fun _=>rfl⟩,fun j hj=>⟨fun hlj=>?_,fun hlj=>?_⟩⟩
 ·have hj2:j < L.length:=by have:=z0e hlj; omega
  exact⟨⟨by omega,by omega⟩,hj2,j + 1,by omega,by omega,wrS (n:=L.length) hj2 (by omega),fun _=>rfl⟩
 have hj2:j=L.length:=by have:=z0m hlj; omega
 subst hj2
 refine⟨(),⟨0,by simp⟩,fun p hp=>⟨fun hlp=>?_,fun hlp=>?_⟩⟩
 ·have hp2:p < L.length:=by have:=z0e hlp; omega
  have hi:=hin p hp2
  refine⟨⟨by omega,by omega⟩,hp2,hi,by omega,by omega,by omega,by omega,by omega,by omega,by omega,p + 1,by omega,by omega,wrS (n:=L.length) hp2 (by omega),⟨rfl,rfl⟩,⟨rfl,a5c Ev.ag rfl,a5c Ev.ix rfl,a5c Ev.k rfl,a5c Ev.ob rfl,a5c Ev.mu rfl,a5c Ev.en rfl,a5c Ev.od rfl,a5c Ev.rd rfl,a5c Ev.wr rfl⟩,rfl,c6d rfl⟩
 have hp2:p=L.length:=by have:=z0m hlp; omega
 subst hp2
 refine⟨(),⟨0,by simp⟩,fun o ho=>⟨fun hlo=>?_,fun hlo=>?_⟩⟩
 ·have ho2:o < M.length:=by have:=z0e hlo; omega
  have hro:=hrow o ho2
  have hx:a0e M o=b6 [] M o:=rfl
  refine⟨⟨by omega,by omega⟩,ho2,o,⟨0,by simp[ho2]⟩,fun q hq=>⟨fun hlq=>?_,fun hlq=>?_⟩⟩
  ·have hq2:q < (b6 [] M o).length:=by have:=z0e hlq; omega
   exact⟨⟨by omega,by omega⟩,hq2,by omega,by omega,q + 1,⟨by rw[hx]; omega,ho2⟩,by rw[hx]; omega,⟨rfl,wrS (n:=(b6 [] M o).length) hq2 hro⟩,rfl,c6d rfl⟩
  ·have hq2:q=(b6 [] M o).length:=by have:=z0m hlq; have:=hq.1; rw[hx] at this; omega
   have e:mpA (toF L) 0 (a0e M o) q=(b6 [] M o).map (toF L):=by rw[hq2,← hx,b1u]
   rw[e]
   refine⟨by omega,by omega,o + 1,by omega,by omega,wrS (n:=M.length) ho2 (by omega),rfl,rfl,fun j hj=>?_,fun j hj i _=>?_⟩
   ·cases hb:Nat.blt j o
    ·obtain rfl:=b67 hb hj
     rw[z0l,c6c,z3o,hq2]
    ·rw[z0g,c6e (by rwa [z0y] at hb)]
   ·cases hb:Nat.blt j o
    ·obtain rfl:=b67 hb hj
     rw[z0l,c6c]
    ·rw[z0g,c6e (by rwa [z0y] at hb)]
 have ho2:o=M.length:=by have:=z0m hlo; omega
 subst ho2
 have e1:mpA (evA E) 0 L L.length=arE E L:=b1u _ _ _
 have e2:mpA (fun i=>toF L (inA R i)) 0 L L.length=arR R L:=b1u _ _ _
 have e3:mpA (fun q:List Int=>q.map (toF L)) [] M M.length=arM M L:=b1u _ _ _
 rw[e1,e2,e3]
 have l1:L.length=(arE E L).length:=by simp[arE]
 have l2:L.length=(arR R L).length:=by simp[arR]
 have l3:M.length=(arM M L).length:=by simp[arM]
 simp only[z0o,and_true,true_and]
 exact⟨⟨l1,l1⟩,⟨l2,l2⟩,l3,l3⟩
theorem n65 (nm:List (Option AV)):CallOk Tryz.prog [] 65 (n6 EL none nm [PG,.lf .is] d48):=x4 Tryz.func65 fo65 fun av pre rv h=>by
 unfold d48 at h; split at h <;> cases h
 exact⟨⟨rfl,fun t a e=>by cases e <;> exact z0h _ _⟩,fun hp=>⟨_,v65 _ _ _ _ (hp _ (.head _)),rfl,t6,t7⟩⟩
def a8z (l:List Int) (x:Int):Bool:=decide (a4t l x ≥ 0)
def d4i:SpP:=fun | [.lf (.is l),.lf (.i x)]=>some ([L40 l.length],plB (a8z l x)) | _=>none
def kCon (nm:List (Option AV)):Nat × (List MBlk→List SV→Option AR):=(64,n6 EL none nm [.lf .is,.lf .i] d4i)
def a5y (P:List Pq) (L:List Int) (k:Int):Nat→Int
 | 0=>0
 | j + 1=>bif (b6 (0,0) P j).2 == k && !L.contains (b6 (0,0) P j).1 then a5y P L k j + 1 else a5y P L k j
def a5z (P:List Pq) (b k:Int):Nat→Int
 | 0=>0
 | j + 1=>bif (b6 (0,0) P j).2 == k && (b6 (0,0) P j).1 == b then a5z P b k j + 1 else a5z P b k j
def wtL (P:List Pq) (L:List Int) (k:Int):Int:=a5y P L k P.length
def p7 (c:Int→Bool) (E:List Ev):Nat→Int
 | 0=>-1
 | i + 1=>bif c i && (decide (p7 c E i < 0) || decide ((evA E i).ag < (evA E (p7 c E i)).ag)) then(i:Int) else p7 c E i
def y9 (P:List Pq) (L:List Int) (i:Int):Bool:=wtL P L i == 0 && !a8z L i
def n8 (P:List Pq) (E:List Ev):Nat→List Int
 | 0=>[]
 | s + 1=>n8 P E s ++ [p7 (y9 P (n8 P E s)) E E.length]
theorem a4s (P:List Pq) (E:List Ev):∀ s,(n8 P E s).length=s:=by
 intro s
 induction s with
 | zero=>rfl
 | succ s ih=>simp[n8,ih]
def d5 (E:List Ev) (R:List Int) (M:List (List Int)):List Pq:=b7 E.length (wF (d9 (o7 (a0m E.length (poG E R M) (rfG E R M) (f8 E R M)) (a0m E.length (poG E R M) (rfG E R M) (f8 E R M)).length)) E.length)
def d4p (E:List Ev) (R:List Int) (M:List (List Int)):SpG:=fun
 | [.lf (.i n),.lf (.rl l)]=>some ([(n=E.length∧E.length≤64)∧l=a0m E.length (poG E R M) (rfG E R M) (f8 E R M)],a9m E.length (d5 E R M))
 | _=>none
def kPre (E:List Ev) (R:List Int) (M:List (List Int)):Nat × (List MBlk→List SV→Option AR):=(54,n6 EL none [] [.lf .i,.lf .rl] (d4p E R M))
def b4g (n:Nat) (P:List Pq):Bool:=a2i n (wF (d9 P) n)
def v4 {α:Type} (b:Bool) (l:List α):List α:=bif b then l else []
def o8 (E:List Ev) (R:List Int) (M:List (List Int)):Bool:=b8 E R M && b4g E.length (d5 E R M)
def a3i (E:List Ev) (R:List Int) (M:List (List Int)):Int:=bif b8 E R M then(bif b4g E.length (d5 E R M) then 0 else 20) else 1
def w5 (E:List Ev) (R:List Int) (M:List (List Int)):List Int:=n8 (d5 E R M) E E.length
def norV (E:List Ev) (R:List Int) (M:List (List Int)):QV:=.gr (some (a3i E R M)) (v4 (o8 E R M) (arE E (w5 E R M))) (v4 (o8 E R M) (arR R (w5 E R M))) (v4 (o8 E R M) (arM M (w5 E R M)))
def c7w:SpG:=fun
 | [.ag [.es E,.is R,.rs M]]=>some ([SzG E M],norV E R M)
 | _=>none
def d8b (nm:List (Option AV)):Nat × (List MBlk→List SV→Option AR):=(20,n6 EL gbT nm [PG] c7w)
def d8e (d z:Nat):List Slot→List MBlk→List Gh:=fun sl m=>match nth sl d with
 | some ⟨_,.ptr c 0⟩=>(match nth m c with
  | some (.cells [_,.sl q _])=>[.mv (z - c - q),.mv q,.mv c]
  | _=>[])
 | _=>[]
def lN1 (n:Nat) (P:List Pq) (t w:Nat):LAnn:=p9 P.length t (fun _=>True) (fun j=>[(w,.oarr 3 n [.int .i64 (fun k=>a5y P [] k j)])]) []
def lN2 (E:List Ev) (P:List Pq) (t o w:Nat):LAnn where
 X:=Nat
 inv:=fun s=>s≤E.length∧∀ i∈n8 P E s,0≤i∧i < E.length
 slots:=fun s=>[(t,.sl o s)]
 mem:=fun s=>[(o,.oarr 3 s (j5 (n8 P E s))),(w,.oarr 3 E.length [.int .i64 (fun k=>wtL P (n8 P E s) k)])]
 mu:=fun s=>E.length - s
 kill:=[o]
def lN3 (E:List Ev) (P:List Pq) (t b:Nat):PLoop:=⟨Nat,fun s=>{ X:=Nat,inv:=fun i=>i≤E.length∧s < E.length,slots:=fun i=>[(t,.i .i64 (i:Int)),(b,.i .i64 (p7 (y9 P (n8 P E s)) E i))],mem:=fun _=>[],mu:=fun i=>E.length - i,kill:=[] }⟩
def lN4 (E:List Ev) (P:List Pq) (t w:Nat):PLoop:=⟨Nat,fun s=>p9 P.length t (fun _=>s < E.length) (fun j=>[(w,.oarr 3 E.length [.int .i64 (fun k=>wtL P (n8 P E s) k - a5z P (p7 (y9 P (n8 P E s)) E E.length) k j)])]) []⟩
end Go.Proofs.YtaeeaniofljmnaaGreatDoor

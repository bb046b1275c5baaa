/-
  A part of the proof (J8).
-/
import Derived.Test.YtaeeaniofljmnaaGreatDoorJ4
namespace Go.Proofs.YtaeeaniofljmnaaGreatDoor
set_option linter.unusedSimpArgs false
set_option linter.unusedVariables false
open Go Go.Proofs.YtaeeaniofljmnaaGreatDoor.Sx
set_option maxRecDepth 100000
def mixA (f:Pf) (m a:Nat):Pf:=fun x y=>bif decide (x < (a:Int)) then wF f (m + 1) x y else wF f m x y
def mixB (f:Pf) (m a b:Nat):Pf:=fun x y=>bif decide (x < (a:Int)) || (decide (x=(a:Int)) && decide (y < (b:Int))) then wF f (m + 1) x y else wF f m x y
def d73 (e n:Nat) (f:Pf):Nat × MBlk:=(e,.oarr 4 (n * n) (b0l (d2d n f)))
def lWm (n:Nat) (f:Pf) (t e:Nat):LAnn:=q6 n t (fun _=>True) (fun m=>[d73 e n (wF f m)]) []
def lWa (n:Nat) (f:Pf) (t e:Nat):PLoop:=⟨Nat,fun m=>q6 n t (fun _=>m < n) (fun a=>[d73 e n (mixA f m a)]) []⟩
def lWb (n:Nat) (f:Pf) (t e:Nat):PLoop:=⟨Nat × Nat,fun p=>q6 n t (fun _=>p.1 < n∧p.2 < n) (fun b=>[d73 e n (mixB f p.1 p.2 b)]) []⟩
def a2t (n:Nat) (f:Pf):Bool:=(List.range n).all (fun a=>!f a a)
def c1u (n:Nat) (f:Pf) (t:Nat):LAnn:=q6 n t (fun i=>a2t i f=true) (fun _=>[]) []
def sCld:Sp:=fun | [.r N l]=>some ([d8 N l=true,L9 l],.sl (fun k=>.sl 0 k) (.bs (d2d N.toNat (wF (d7 l) N.toNat)))) | _=>none
def c93:Sp:=fun | [.r N l]=>some ([L9 l],.sl (b4q (bif d8 N l then N else 0)) (.ps (bif d8 N l then b7 N (wF (d7 l) N.toNat) else []))) | _=>none
def c8y:Sp:=fun | [.r N l]=>some ([L9 l],.pl (.b (d8 N l && a2t N.toNat (wF (d7 l) N.toNat)))) | _=>none
def kClo (nm:List (Option AV)):Nat × (List MBlk→List SV→Option AR):=(110,a1z EL nm [.r] c93)
def kAcy (nm:List (Option AV)):Nat × (List MBlk→List SV→Option AR):=(63,a1z EL nm [.r] c8y)
theorem d7y (N:Int) (l:List Pq):(p7 (tab [b7q [],c4t []] [(0,.of (c1u N.toNat (wF (d7 l) N.toNat) 12))]) Tryz.f63 [rlV N 0 l] [arP l] (l4 (.b (d8 N l && a2t N.toNat (wF (d7 l) N.toNat)))))=(
 let a:=((0:Int),(0:Int))
 let c:=wF (d7 l) N.toNat
 let d:=N=N∧l.length=l.length
 let e:=d8 N l && a2t N.toNat c
 let f:=PLoop.of (c1u N.toNat c (12:Nat))
 l.length=l.length∧(mkN (fun(j:Nat)=>((b6 a l j).fst,(b6 a l j).snd)) l.length).length≤(1099511627776:Nat)∧((!d8 N (mkN (fun(j:Nat)=>((b6 a l j).fst,(b6 a l j).snd)) l.length))=true→false=e)∧((!d8 N (mkN (fun(j:Nat)=>((b6 a l j).fst,(b6 a l j).snd)) l.length))=false→l.length=l.length∧d8 N (mkN (fun(j:Nat)=>((b6 a l j).fst,(b6 a l j).snd)) l.length)=true∧(mkN (fun(j:Nat)=>((b6 a l j).fst,(b6 a l j).snd)) l.length).length≤(1099511627776:Nat)∧∃(x:PUnit),(∃(x:Nat),(x≤N.toNat∧a2t x c=true)∧((0:Int)=(↑x:Int)∧True)∧True)∧∀(x_1:Nat),x_1≤N.toNat∧a2t x_1 c=true→(decide ((↑x_1:Int) < N)=true→(wF (d7 (mkN (fun(j:Nat)=>((b6 a l j).fst,(b6 a l j).snd)) l.length)) N.toNat (↑x_1:Int) (↑x_1:Int)=true→false=e)∧(wF (d7 (mkN (fun(j:Nat)=>((b6 a l j).fst,(b6 a l j).snd)) l.length)) N.toNat (↑x_1:Int) (↑x_1:Int)=false→∃(x_2:Nat),(x_2≤N.toNat∧a2t x_2 c=true)∧(f.ann x).mu x_2 < (f.ann x).mu x_1∧(d∧True∧True∧d∧d8 N (mkN (fun(j:Nat)=>((b6 a l j).fst,(b6 a l j).snd)) l.length)=d8 N (mkN (fun(j:Nat)=>((b6 a l j).fst,(b6 a l j).snd)) l.length)∧false=false∧d∧True∧True∧N=N∧IntKind.i64.wrap ((↑x_1:Int) + (1:Int))=(↑x_2:Int)∧True)∧(l.length=l.length∧(∀(j:Nat),j < l.length→(b6 a l j).fst=(b6 a l j).fst)∧(∀(j:Nat),j < l.length→(b6 a l j).snd=(b6 a l j).snd)∧True)∧d∧(∀(x y:Int),wF (d7 (mkN (fun(j:Nat)=>((b6 a l j).fst,(b6 a l j).snd)) l.length)) N.toNat x y=wF (d7 (mkN (fun(j:Nat)=>((b6 a l j).fst,(b6 a l j).snd)) l.length)) N.toNat x y)∧True))∧(decide ((↑x_1:Int) < N)=false→true=e))):=by kernel_rfl
theorem v63 (N:Int) (l:List Pq) (hl:L9 l):p7 (tab [b7q [],c4t []] [(0,.of (c1u N.toNat (wF (d7 l) N.toNat) 12))]) Tryz.f63 [rlV N 0 l] [arP l] (l4 (.b (d8 N l && a2t N.toNat (wF (d7 l) N.toNat)))):=by
 rw[d7y]
 simp only[eq_self,true_and,and_true,z0n,imp_self,l9,m6,g7,g8,PLoop.of,q6,AV.len,b59,lWm,lWa,lWb,c1u]
 refine⟨hl,fun h=>?_,fun h=>?_⟩
 ·have hv:d8 N l=false:=by simpa using h
  rw[hv]; rfl
 ·have hv:d8 N l=true:=by simpa using h
  obtain⟨h1,h2,h3⟩:=a05.1 hv
  rw[hv]
  refine⟨rfl,hl,(),⟨0,by simp[a2t],rfl⟩,fun i hi=>⟨fun hlt=>?_,fun hlt=>?_⟩⟩
  ·have hlt2:=z0e hlt
   refine⟨fun hc=>?_,fun hc=>?_⟩
   ·have e:a2t N.toNat (wF (d7 l) N.toNat)=false:=by
     rw[a2t,List.all_eq_false]
     exact⟨i,z2m.2 (by omega),by rw[hc]; simp⟩
    rw[e]; rfl
   ·exact⟨i + 1,⟨by omega,by rw[a2t,List.range_succ,List.all_append]; rw[a2t] at hi; rw[hi.2]; simp[hc]⟩,by omega,wrS (n:=64) (by omega) (by omega)⟩
  ·have hlt2:=z0i hlt
   have e:i=N.toNat:=by omega
   have hi3:=hi.2
   rw[e] at hi3
   rw[hi3]; rfl
theorem d2o (N:Int) (l:List Pq):(p7 (tab [b7q [],c4t [],b7p []] []) Tryz.f110 [rlV N 0 l] [arP l] (a77 (b4q (bif d8 N l then N else 0) (l8 (d8 N l) (b7 N (wF (d7 l) N.toNat))).length) 67 (l8 (d8 N l) (b7 N (wF (d7 l) N.toNat))).length (a1l (l8 (d8 N l) (b7 N (wF (d7 l) N.toNat))))))=(
 let a:=((0:Int),(0:Int))
 let b:=l8 (d8 N l) (b7 N (wF (d7 l) N.toNat))
 l.length=l.length∧(mkN (fun(j:Nat)=>((b6 a l j).fst,(b6 a l j).snd)) l.length).length≤(1099511627776:Nat)∧((!d8 N (mkN (fun(j:Nat)=>((b6 a l j).fst,(b6 a l j).snd)) l.length))=true→b.length=(0:Nat)∧((0:Int)=bif d8 N l then N else(0:Int))∧b.length=(0:Nat)∧True)∧((!d8 N (mkN (fun(j:Nat)=>((b6 a l j).fst,(b6 a l j).snd)) l.length))=false→l.length=l.length∧d8 N (mkN (fun(j:Nat)=>((b6 a l j).fst,(b6 a l j).snd)) l.length)=true∧(mkN (fun(j:Nat)=>((b6 a l j).fst,(b6 a l j).snd)) l.length).length≤(1099511627776:Nat)∧((0:Int)≤N∧N≤(64:Int))∧(AV.ps (b7 N (wF (d7 (mkN (fun(j:Nat)=>((b6 a l j).fst,(b6 a l j).snd)) l.length)) N.toNat))).len=b.length∧((∀(j:Nat),j < b.length→(b6 a (b7 N (wF (d7 (mkN (fun(j:Nat)=>((b6 a l j).fst,(b6 a l j).snd)) l.length)) N.toNat)) j).fst=(b6 a b j).fst)∧(∀(j:Nat),j < b.length→(b6 a (b7 N (wF (d7 (mkN (fun(j:Nat)=>((b6 a l j).fst,(b6 a l j).snd)) l.length)) N.toNat)) j).snd=(b6 a b j).snd)∧True)∧(N=bif d8 N l then N else(0:Int))∧(AV.ps (b7 N (wF (d7 (mkN (fun(j:Nat)=>((b6 a l j).fst,(b6 a l j).snd)) l.length)) N.toNat))).len=b.length∧True)):=by kernel_rfl
theorem v110 (N:Int) (l:List Pq) (hl:L9 l):p7 (tab [b7q [],c4t [],b7p []] []) Tryz.f110 [rlV N 0 l] [arP l] (a77 (b4q (bif d8 N l then N else 0) (l8 (d8 N l) (b7 N (wF (d7 l) N.toNat))).length) 67 (l8 (d8 N l) (b7 N (wF (d7 l) N.toNat))).length (a1l (l8 (d8 N l) (b7 N (wF (d7 l) N.toNat))))):=by
 rw[d2o]
 simp only[eq_self,true_and,and_true,z0n,imp_self,l9,m6,g7,g8,PLoop.of,q6,AV.len,b59,lWm,lWa,lWb,c1u]
 refine⟨hl,fun h=>?_,fun h=>?_⟩
 ·have hv:d8 N l=false:=by simpa using h
  simp[hv,l8]
 ·have hv:d8 N l=true:=by simpa using h
  obtain⟨h1,h2,h3⟩:=a05.1 hv
  rw[hv]
  simp only[l8,z0f,eq_self,true_and,and_true,z0n,b59]
  exact⟨hl,h1,h2⟩
theorem fo63:p8 Tryz.prog 63:=⟨Tryz.f63,Tryz.func63,by kernel_rfl,by kernel_rfl⟩
theorem d95:p8 Tryz.prog 110:=⟨Tryz.f110,Tryz.func110,by kernel_rfl,by kernel_rfl⟩
def t63:List AV→Tab
 | [.r N l]=>tab [b7q [],c4t []] [(0,.of (c1u N.toNat (wF (d7 l) N.toNat) 12))]
 | _=>tab [] []
theorem c63:CallOk Tryz.prog [] 63 (a1z EL [] [.r] c8y):=by
 refine okT (fn:=Tryz.f63) Tryz.func63 fo63 t63 (fun av=>?_) (fun av=>?_) (fun av pre rv h=>?_) (fun av pre rv h hp=>?_)
 ·unfold t63; split <;> first | exact a4s (b2a (d5k _) (b2a (n120 _) a6s)) | exact a4s a6s
 ·unfold t63; split <;> exact⟨rfl,rfl⟩
 ·unfold c8y at h; split at h <;> cases h
  exact⟨rfl,fun t a e=>by cases e <;> exact z0h _ _⟩
 ·unfold c8y at h; split at h <;> cases h
  exact v63 _ _ (hp _ (.head _))
theorem n63 (nm:List (Option AV)):CallOk Tryz.prog [] 63 (a1z EL nm [.r] c8y):=a8k c63
def d6t:List AV→Tab
 | [.r N l]=>tab [b7q [],c4t [],b7p []] []
 | _=>tab [] []
theorem c110:CallOk Tryz.prog [] 110 (a1z EL [] [.r] c93):=by
 refine okT (fn:=Tryz.f110) Tryz.func110 d95 d6t (fun av=>?_) (fun av=>?_) (fun av pre rv h=>?_) (fun av pre rv h hp=>?_)
 ·unfold d6t; split <;> first | exact a4s (b2a (d5k _) (b2a (n120 _) (b2a (d5m _) a6s))) | exact a4s a6s
 ·unfold d6t; split <;> exact⟨rfl,rfl⟩
 ·unfold c93 at h; split at h <;> cases h
  exact⟨rfl,fun t a e=>by cases e <;> exact z0h _ _⟩
 ·unfold c93 at h; split at h <;> cases h
  exact v110 _ _ (hp _ (.head _))
theorem n110 (nm:List (Option AV)):CallOk Tryz.prog [] 110 (a1z EL nm [.r] c93):=a8k c110
abbrev SpP:=List PV→Option (List Prop × QV)
theorem a1o {G:List (Nat × Nat)} {f:Nat} {F:List MBlk→List SV→Option AR} (h:CallOk Tryz.prog [] f F):CallOk Tryz.prog G f F:=⟨h.fn,fun ρ W m vs xs ar _ h2 h3 h4 h5 h6 h7=>h.ok ρ W m vs xs ar (fun g r hg=>by cases hg) h2 h3 h4 h5 h6 h7⟩
def plB (b:Bool):QV:=.rv (.pl (.b b))
def plI (n:Int):QV:=.rv (.pl (.i .i64 n))
def sI1 (f:Int→Bool):SpP:=fun | [.lf (.i n)]=>some ([],plB (f n)) | _=>none
def sI2 (f:Int→Int→Bool):SpP:=fun | [.lf (.i n),.lf (.i m)]=>some ([],plB (f n m)) | _=>none
def sE1 (f:Ev→Bool):SpP:=fun | [.lf (.ev e)]=>some ([],plB (f e)) | _=>none
def b8h (f:Ev→Int):SpP:=fun | [.lf (.ev e)]=>some ([],plI (f e)) | _=>none
def sE2 (f:Ev→Ev→Bool):SpP:=fun | [.lf (.ev e),.lf (.ev d)]=>some ([],plB (f e d)) | _=>none
def kI1 (n:Nat) (f:Int→Bool):Nat × (List MBlk→List SV→Option AR):=(n,o5 EL none [] [.lf .i] (sI1 f))
def kI2 (n:Nat) (f:Int→Int→Bool):Nat × (List MBlk→List SV→Option AR):=(n,o5 EL none [] [.lf .i,.lf .i] (sI2 f))
def kE1 (n:Nat) (f:Ev→Bool):Nat × (List MBlk→List SV→Option AR):=(n,o5 EL none [] [.lf .ev] (sE1 f))
def d0v (n:Nat) (f:Ev→Int):Nat × (List MBlk→List SV→Option AR):=(n,o5 EL none [] [.lf .ev] (b8h f))
def kE2 (n:Nat) (f:Ev→Ev→Bool):Nat × (List MBlk→List SV→Option AR):=(n,o5 EL none [] [.lf .ev,.lf .ev] (sE2 f))
def a34 (n:Int):Bool:=decide (n < 0)
theorem d9i:p8 Tryz.prog 125:=⟨Tryz.f125,Tryz.func125,by kernel_rfl,by kernel_rfl⟩
theorem e01:p8 Tryz.prog 152:=⟨Tryz.f152,Tryz.func152,by kernel_rfl,by kernel_rfl⟩
theorem d9n:p8 Tryz.prog 130:=⟨Tryz.f130,Tryz.func130,by kernel_rfl,by kernel_rfl⟩
theorem d9m:p8 Tryz.prog 129:=⟨Tryz.f129,Tryz.func129,by kernel_rfl,by kernel_rfl⟩
theorem e02:p8 Tryz.prog 153:=⟨Tryz.f153,Tryz.func153,by kernel_rfl,by kernel_rfl⟩
theorem d9o:p8 Tryz.prog 131:=⟨Tryz.f131,Tryz.func131,by kernel_rfl,by kernel_rfl⟩
theorem d9p:p8 Tryz.prog 132:=⟨Tryz.f132,Tryz.func132,by kernel_rfl,by kernel_rfl⟩
theorem d9j:p8 Tryz.prog 126:=⟨Tryz.f126,Tryz.func126,by kernel_rfl,by kernel_rfl⟩
theorem d9k:p8 Tryz.prog 127:=⟨Tryz.f127,Tryz.func127,by kernel_rfl,by kernel_rfl⟩
theorem d9l:p8 Tryz.prog 128:=⟨Tryz.f128,Tryz.func128,by kernel_rfl,by kernel_rfl⟩
theorem fo85:p8 Tryz.prog 85:=⟨Tryz.f85,Tryz.func85,by kernel_rfl,by kernel_rfl⟩
theorem d9g:p8 Tryz.prog 123:=⟨Tryz.f123,Tryz.func123,by kernel_rfl,by kernel_rfl⟩
def d4h (n:Int):Prop:=p7 (({}:Kit)).tab Tryz.f125 [.i .i64 n] [] (l4 (.b (a34 n)))
theorem d2z (n:Int):d4h n=(decide (n < (0:Int))=a34 n):=by kernel_rfl
theorem v125 (n:Int) :d4h n:=by
 rw[d2z]
 rfl
def d4v (n:Int):Prop:=p7 (({}:Kit)).tab Tryz.f152 [.i .i64 n] [] (l4 (.b (a34 n)))
theorem d3h (n:Int):d4v n=(decide (n < (0:Int))=a34 n):=by kernel_rfl
theorem v152 (n:Int) :d4v n:=by
 rw[d3h]
 rfl
def d4m (n:Int):Prop:=p7 (({}:Kit)).tab Tryz.f130 [.i .i64 n] [] (l4 (.b (a1i n)))
theorem d34 (n:Int):d4m n=((decide (n ≥ (-2147483648:Int)) && decide (n≤(2147483647:Int)))=a1i n):=by kernel_rfl
theorem v130 (n:Int) :d4m n:=by
 rw[d34]
 rfl
def d4l (n:Int):Prop:=p7 (({}:Kit)).tab Tryz.f129 [.i .i64 n] [] (l4 (.b (a4v n)))
theorem d33 (n:Int):d4l n=((n == (1:Int) || n == (2:Int) || n == (3:Int) || n == (5:Int) || n == (6:Int) || n == (8:Int))=a4v n):=by kernel_rfl
theorem v129 (n:Int) :d4l n:=by
 rw[d33]
 rfl
def d4w (n:Int):Prop:=p7 (({}:Kit)).tab Tryz.f153 [.i .i64 n] [] (l4 (.b (a0k n)))
theorem d3i (n:Int):d4w n=((n == (1:Int) || n == (8:Int) || n == (5:Int) || n == (6:Int))=a0k n):=by kernel_rfl
theorem v153 (n:Int) :d4w n:=by
 rw[d3i]
 rfl
def d4n (n:Int):Prop:=p7 (({}:Kit)).tab Tryz.f131 [.i .i64 n] [] (l4 (.b (a0n n)))
theorem d35 (n:Int):d4n n=((n == (2:Int) || n == (3:Int) || n == (4:Int) || n == (5:Int))=a0n n):=by kernel_rfl
theorem v131 (n:Int) :d4n n:=by
 rw[d35]
 rfl
def d4o (n m:Int):Prop:=p7 (({}:Kit)).tab Tryz.f132 [.i .i64 n,.i .i64 m] [] (l4 (.b (v5 n m)))
theorem d36 (n m:Int):d4o n m=((decide (n ≥ (0:Int)) && decide (n < m))=v5 n m):=by kernel_rfl
theorem v132 (n m:Int) :d4o n m:=by
 rw[d36]
 rfl
def d4i (e:Ev):Prop:=p7 (({ calls:=[kI2 132 v5] }:Kit)).tab Tryz.f126 [a67 e] [] (l4 (.b (a1u e)))
theorem d30 (e:Ev):d4i e=(
 let a:=(4:Int)
 ((e.k ==(7:Int))=true→(e.ob ==(0:Int))=a1u e)∧((e.k ==(7:Int))=false→((e.k ==(9:Int))=true→v5 e.ob a=a1u e)∧((e.k ==(9:Int))=false→((e.k ==(10:Int))=true→v5 e.ob a=a1u e)∧((e.k ==(10:Int))=false→((e.k ==(11:Int))=true→v5 e.ob a=a1u e)∧((e.k ==(11:Int))=false→((e.k ==(12:Int))=true→v5 e.ob a=a1u e)∧((e.k ==(12:Int))=false→((e.k ==(13:Int))=true→v5 e.ob a=a1u e)∧((e.k ==(13:Int))=false→((e.k ==(14:Int))=true→v5 e.ob a=a1u e)∧((e.k ==(14:Int))=false→((e.k ==(15:Int))=true→v5 e.ob a=a1u e)∧((e.k ==(15:Int))=false→((e.k ==(16:Int))=true→decide (e.ob ≥ (0:Int))=a1u e)∧((e.k ==(16:Int))=false→((e.k ==(17:Int))=true→decide (e.ob ≥ (0:Int))=a1u e)∧((e.k ==(17:Int))=false→v5 e.ob (8:Int)=a1u e))))))))))):=by kernel_rfl
theorem v126 (e:Ev) :d4i e:=by
 rw[d30]
 simp only[a1u]; grind
def d4j (e:Ev):Prop:=p7 (({ calls:=[kI2 132 v5,kI1 130 a1i,kI1 153 a0k] }:Kit)).tab Tryz.f127 [a67 e] [] (l4 (.b (a3t e)))
theorem d31 (e:Ev):d4j e=(((e.k == (11:Int))=true→v5 e.rd (2:Int)=a3t e)∧((e.k == (11:Int))=false→((e.k == (14:Int))=true→v5 e.rd (2:Int)=a3t e)∧((e.k == (14:Int))=false→((e.k == (15:Int))=true→decide (e.rd ≥ (0:Int))=a3t e)∧((e.k == (15:Int))=false→(a1i e.rd && (a0k e.k || e.rd == (0:Int)))=a3t e)))):=by kernel_rfl
theorem v127 (e:Ev) :d4j e:=by
 rw[d31]
 simp only[a3t]; grind
def d4k (e:Ev):Prop:=p7 (({}:Kit)).tab Tryz.f128 [a67 e] [] (l4 (.b (a3i e)))
theorem d32 (e:Ev):d4k e=(((e.k == (1:Int))=true→decide (e.en ≥ (-1:Int))=a3i e)∧((e.k == (1:Int))=false→((e.k == (8:Int))=true→decide (e.en ≥ (-1:Int))=a3i e)∧((e.k == (8:Int))=false→((e.k == (3:Int))=true→decide (e.en ≥ (0:Int))=a3i e)∧((e.k == (3:Int))=false→((e.k == (4:Int))=true→decide (e.en ≥ (0:Int))=a3i e)∧((e.k == (4:Int))=false→(e.en == (-1:Int))=a3i e))))):=by kernel_rfl
theorem v128 (e:Ev) :d4k e:=by
 rw[d32]
 simp only[a3i]; grind
def q85D (e:Ev):Prop:=p7 (({ calls:=[kI2 132 v5,kI1 130 a1i,kI1 153 a0k,kI1 125 a34,kI1 129 a4v,kI1 131 a0n,kE1 126 a1u,kE1 127 a3t,kE1 128 a3i] }:Kit)).tab Tryz.f85 [a67 e] [] (l4 (.b (q9 e)))
theorem d8f (e:Ev):q85D e=(
 let a:=decide (e.k < (1:Int)) || decide (e.k > (17:Int)) || !a34 e.ag ==(e.k ==(4:Int)) || decide (e.ix < (0:Int)) || !a1u e || !a3t e || !a3i e
 let b:=decide (e.od < (0:Int)) || decide (e.od > (2:Int)) || !a4v e.k && e.od !=(0:Int) || !a1i e.wr || !a0n e.k && e.wr !=(0:Int)
 (a=true→false=q9 e)∧(a=false→(b=true→false=q9 e)∧(b=false→((e.k ==(12:Int))=true→v5 e.mu (4:Int)=q9 e)∧((e.k ==(12:Int))=false→(e.mu ==(-1:Int))=q9 e)))):=by kernel_rfl
theorem v85 (e:Ev) :q85D e:=by
 rw[d8f]
 simp only[z0n,true_and,and_true,if_true,a34]
 obtain⟨ag,ix,k,ob,mu,en,od,rd,wr⟩:=e
 simp only[q9] <;> grind
theorem n125 (nm:List (Option AV)):CallOk Tryz.prog [] 125 (o5 EL none nm [.lf .i] (sI1 a34)):=x4 Tryz.func125 d9i fun av pre rv h=>by
 unfold sI1 at h; split at h <;> cases h
 exact⟨⟨rfl,fun t a e=>by cases e <;> exact z0h _ _⟩,fun hp=>⟨_,v125 _ ,rfl,t9,u4⟩⟩
theorem n152 (nm:List (Option AV)):CallOk Tryz.prog [] 152 (o5 EL none nm [.lf .i] (sI1 a34)):=x4 Tryz.func152 e01 fun av pre rv h=>by
 unfold sI1 at h; split at h <;> cases h
 exact⟨⟨rfl,fun t a e=>by cases e <;> exact z0h _ _⟩,fun hp=>⟨_,v152 _ ,rfl,t9,u4⟩⟩
theorem n130 (nm:List (Option AV)):CallOk Tryz.prog [] 130 (o5 EL none nm [.lf .i] (sI1 a1i)):=x4 Tryz.func130 d9n fun av pre rv h=>by
 unfold sI1 at h; split at h <;> cases h
 exact⟨⟨rfl,fun t a e=>by cases e <;> exact z0h _ _⟩,fun hp=>⟨_,v130 _ ,rfl,t9,u4⟩⟩
theorem n129 (nm:List (Option AV)):CallOk Tryz.prog [] 129 (o5 EL none nm [.lf .i] (sI1 a4v)):=x4 Tryz.func129 d9m fun av pre rv h=>by
 unfold sI1 at h; split at h <;> cases h
 exact⟨⟨rfl,fun t a e=>by cases e <;> exact z0h _ _⟩,fun hp=>⟨_,v129 _ ,rfl,t9,u4⟩⟩
theorem n153 (nm:List (Option AV)):CallOk Tryz.prog [] 153 (o5 EL none nm [.lf .i] (sI1 a0k)):=x4 Tryz.func153 e02 fun av pre rv h=>by
 unfold sI1 at h; split at h <;> cases h
 exact⟨⟨rfl,fun t a e=>by cases e <;> exact z0h _ _⟩,fun hp=>⟨_,v153 _ ,rfl,t9,u4⟩⟩
theorem n131 (nm:List (Option AV)):CallOk Tryz.prog [] 131 (o5 EL none nm [.lf .i] (sI1 a0n)):=x4 Tryz.func131 d9o fun av pre rv h=>by
 unfold sI1 at h; split at h <;> cases h
 exact⟨⟨rfl,fun t a e=>by cases e <;> exact z0h _ _⟩,fun hp=>⟨_,v131 _ ,rfl,t9,u4⟩⟩
theorem d5l (nm:List (Option AV)):CallOk Tryz.prog [] 132 (o5 EL none nm [.lf .i,.lf .i] (sI2 v5)):=x4 Tryz.func132 d9p fun av pre rv h=>by
 unfold sI2 at h; split at h <;> cases h
 exact⟨⟨rfl,fun t a e=>by cases e <;> exact z0h _ _⟩,fun hp=>⟨_,v132 _ _ ,rfl,t9,u4⟩⟩
theorem n126 (nm:List (Option AV)):CallOk Tryz.prog [] 126 (o5 EL none nm [.lf .ev] (sE1 a1u)):=x4 Tryz.func126 d9j fun av pre rv h=>by
 unfold sE1 at h; split at h <;> cases h
 exact⟨⟨rfl,fun t a e=>by cases e <;> exact z0h _ _⟩,fun hp=>⟨_,v126 _ ,rfl,(m9 (d5l _) t9),u4⟩⟩
theorem n127 (nm:List (Option AV)):CallOk Tryz.prog [] 127 (o5 EL none nm [.lf .ev] (sE1 a3t)):=x4 Tryz.func127 d9k fun av pre rv h=>by
 unfold sE1 at h; split at h <;> cases h
 exact⟨⟨rfl,fun t a e=>by cases e <;> exact z0h _ _⟩,fun hp=>⟨_,v127 _ ,rfl,(m9 (d5l _) (m9 (n130 _) (m9 (n153 _) t9))),u4⟩⟩
theorem n128 (nm:List (Option AV)):CallOk Tryz.prog [] 128 (o5 EL none nm [.lf .ev] (sE1 a3i)):=x4 Tryz.func128 d9l fun av pre rv h=>by
 unfold sE1 at h; split at h <;> cases h
 exact⟨⟨rfl,fun t a e=>by cases e <;> exact z0h _ _⟩,fun hp=>⟨_,v128 _ ,rfl,t9,u4⟩⟩
theorem n85 (nm:List (Option AV)):CallOk Tryz.prog [] 85 (o5 EL none nm [.lf .ev] (sE1 q9)):=x4 Tryz.func85 fo85 fun av pre rv h=>by
 unfold sE1 at h; split at h <;> cases h
 exact⟨⟨rfl,fun t a e=>by cases e <;> exact z0h _ _⟩,fun hp=>⟨_,v85 _ ,rfl,(m9 (d5l _) (m9 (n130 _) (m9 (n153 _) (m9 (n125 _) (m9 (n129 _) (m9 (n131 _) (m9 (n126 _) (m9 (n127 _) (m9 (n128 _) t9))))))))),u4⟩⟩
theorem r1:d9 a0m ((0:Int).toNat)=7∧q7 a29 ((0:Int).toNat)=true∧d9 a2s ((0:Int).toNat) = -2147483648∧d9 a0l ((0:Int).toNat)=2147483647∧q7 z5 ((0:Int).toNat)=false∧d9 z4 ((0:Int).toNat) = -1∧d9 a3e ((0:Int).toNat)=1∧q7 a0h ((0:Int).toNat)=false∧IntKind.i64.wrap (1 - 1)=0:=⟨rfl,rfl,rfl,rfl,rfl,rfl,rfl,rfl,rfl⟩
theorem r2:d9 a0m ((1:Int).toNat)=7∧q7 a29 ((1:Int).toNat)=true∧d9 a2s ((1:Int).toNat)=0∧d9 a0l ((1:Int).toNat)=0∧q7 z5 ((1:Int).toNat)=true∧d9 z4 ((1:Int).toNat) = -2∧d9 a3e ((1:Int).toNat)=1∧q7 a0h ((1:Int).toNat)=true∧IntKind.i64.wrap (2 - 1)=1:=⟨rfl,rfl,rfl,rfl,rfl,rfl,rfl,rfl,rfl⟩
theorem r3:d9 a0m ((2:Int).toNat)=7∧q7 a29 ((2:Int).toNat)=true∧d9 a2s ((2:Int).toNat)=0∧d9 a0l ((2:Int).toNat)=0∧q7 z5 ((2:Int).toNat)=true∧d9 z4 ((2:Int).toNat)=0∧d9 a3e ((2:Int).toNat)=4∧q7 a0h ((2:Int).toNat)=true∧IntKind.i64.wrap (3 - 1)=2:=⟨rfl,rfl,rfl,rfl,rfl,rfl,rfl,rfl,rfl⟩
theorem r4:d9 a0m ((3:Int).toNat)=7∧q7 a29 ((3:Int).toNat)=false∧d9 a2s ((3:Int).toNat)=0∧d9 a0l ((3:Int).toNat)=0∧q7 z5 ((3:Int).toNat)=true∧d9 z4 ((3:Int).toNat)=0∧d9 a3e ((3:Int).toNat)=1∧q7 a0h ((3:Int).toNat)=true∧IntKind.i64.wrap (4 - 1)=3:=⟨rfl,rfl,rfl,rfl,rfl,rfl,rfl,rfl,rfl⟩
theorem r5:d9 a0m ((4:Int).toNat)=7∧q7 a29 ((4:Int).toNat)=true∧d9 a2s ((4:Int).toNat) = -2147483648∧d9 a0l ((4:Int).toNat)=2147483647∧q7 z5 ((4:Int).toNat)=true∧d9 z4 ((4:Int).toNat) = -2∧d9 a3e ((4:Int).toNat)=1∧q7 a0h ((4:Int).toNat)=true∧IntKind.i64.wrap (5 - 1)=4:=⟨rfl,rfl,rfl,rfl,rfl,rfl,rfl,rfl,rfl⟩
theorem r6:d9 a0m ((5:Int).toNat)=7∧q7 a29 ((5:Int).toNat)=true∧d9 a2s ((5:Int).toNat) = -2147483648∧d9 a0l ((5:Int).toNat)=2147483647∧q7 z5 ((5:Int).toNat)=false∧d9 z4 ((5:Int).toNat) = -2∧d9 a3e ((5:Int).toNat)=1∧q7 a0h ((5:Int).toNat)=false∧IntKind.i64.wrap (6 - 1)=5:=⟨rfl,rfl,rfl,rfl,rfl,rfl,rfl,rfl,rfl⟩
theorem r7:d9 a0m ((6:Int).toNat)=0∧q7 a29 ((6:Int).toNat)=false∧d9 a2s ((6:Int).toNat)=0∧d9 a0l ((6:Int).toNat)=0∧q7 z5 ((6:Int).toNat)=false∧d9 z4 ((6:Int).toNat) = -2∧d9 a3e ((6:Int).toNat)=0∧q7 a0h ((6:Int).toNat)=false∧IntKind.i64.wrap (7 - 1)=6:=⟨rfl,rfl,rfl,rfl,rfl,rfl,rfl,rfl,rfl⟩
theorem r8:d9 a0m ((7:Int).toNat)=7∧q7 a29 ((7:Int).toNat)=true∧d9 a2s ((7:Int).toNat) = -2147483648∧d9 a0l ((7:Int).toNat)=2147483647∧q7 z5 ((7:Int).toNat)=false∧d9 z4 ((7:Int).toNat) = -1∧d9 a3e ((7:Int).toNat)=1∧q7 a0h ((7:Int).toNat)=false∧IntKind.i64.wrap (8 - 1)=7:=⟨rfl,rfl,rfl,rfl,rfl,rfl,rfl,rfl,rfl⟩
theorem r9:d9 a0m ((8:Int).toNat)=3∧q7 a29 ((8:Int).toNat)=false∧d9 a2s ((8:Int).toNat)=0∧d9 a0l ((8:Int).toNat)=0∧q7 z5 ((8:Int).toNat)=false∧d9 z4 ((8:Int).toNat) = -2∧d9 a3e ((8:Int).toNat)=2∧q7 a0h ((8:Int).toNat)=true∧IntKind.i64.wrap (9 - 1)=8:=⟨rfl,rfl,rfl,rfl,rfl,rfl,rfl,rfl,rfl⟩
theorem r10:d9 a0m ((9:Int).toNat)=3∧q7 a29 ((9:Int).toNat)=false∧d9 a2s ((9:Int).toNat)=0∧d9 a0l ((9:Int).toNat)=0∧q7 z5 ((9:Int).toNat)=false∧d9 z4 ((9:Int).toNat) = -2∧d9 a3e ((9:Int).toNat)=2∧q7 a0h ((9:Int).toNat)=true∧IntKind.i64.wrap (10 - 1)=9:=⟨rfl,rfl,rfl,rfl,rfl,rfl,rfl,rfl,rfl⟩
theorem r11:d9 a0m ((10:Int).toNat)=3∧q7 a29 ((10:Int).toNat)=false∧d9 a2s ((10:Int).toNat)=0∧d9 a0l ((10:Int).toNat)=1∧q7 z5 ((10:Int).toNat)=false∧d9 z4 ((10:Int).toNat) = -2∧d9 a3e ((10:Int).toNat)=2∧q7 a0h ((10:Int).toNat)=true∧IntKind.i64.wrap (11 - 1)=10:=⟨rfl,rfl,rfl,rfl,rfl,rfl,rfl,rfl,rfl⟩
theorem r12:d9 a0m ((11:Int).toNat)=3∧q7 a29 ((11:Int).toNat)=false∧d9 a2s ((11:Int).toNat)=0∧d9 a0l ((11:Int).toNat)=0∧q7 z5 ((11:Int).toNat)=false∧d9 z4 ((11:Int).toNat) = -2∧d9 a3e ((11:Int).toNat)=3∧q7 a0h ((11:Int).toNat)=true∧IntKind.i64.wrap (12 - 1)=11:=⟨rfl,rfl,rfl,rfl,rfl,rfl,rfl,rfl,rfl⟩
theorem r13:d9 a0m ((12:Int).toNat)=3∧q7 a29 ((12:Int).toNat)=false∧d9 a2s ((12:Int).toNat)=0∧d9 a0l ((12:Int).toNat)=0∧q7 z5 ((12:Int).toNat)=false∧d9 z4 ((12:Int).toNat) = -2∧d9 a3e ((12:Int).toNat)=3∧q7 a0h ((12:Int).toNat)=true∧IntKind.i64.wrap (13 - 1)=12:=⟨rfl,rfl,rfl,rfl,rfl,rfl,rfl,rfl,rfl⟩
theorem r14:d9 a0m ((13:Int).toNat)=3∧q7 a29 ((13:Int).toNat)=false∧d9 a2s ((13:Int).toNat)=0∧d9 a0l ((13:Int).toNat)=1∧q7 z5 ((13:Int).toNat)=false∧d9 z4 ((13:Int).toNat) = -2∧d9 a3e ((13:Int).toNat)=3∧q7 a0h ((13:Int).toNat)=true∧IntKind.i64.wrap (14 - 1)=13:=⟨rfl,rfl,rfl,rfl,rfl,rfl,rfl,rfl,rfl⟩
theorem r15:d9 a0m ((14:Int).toNat)=3∧q7 a29 ((14:Int).toNat)=false∧d9 a2s ((14:Int).toNat)=0∧d9 a0l ((14:Int).toNat) = -1∧q7 z5 ((14:Int).toNat)=false∧d9 z4 ((14:Int).toNat) = -2∧d9 a3e ((14:Int).toNat)=3∧q7 a0h ((14:Int).toNat)=true∧IntKind.i64.wrap (15 - 1)=14:=⟨rfl,rfl,rfl,rfl,rfl,rfl,rfl,rfl,rfl⟩
theorem r16:d9 a0m ((15:Int).toNat) = -1∧q7 a29 ((15:Int).toNat)=false∧d9 a2s ((15:Int).toNat)=0∧d9 a0l ((15:Int).toNat)=0∧q7 z5 ((15:Int).toNat)=false∧d9 z4 ((15:Int).toNat) = -2∧d9 a3e ((15:Int).toNat)=0∧q7 a0h ((15:Int).toNat)=false∧IntKind.i64.wrap (16 - 1)=15:=⟨rfl,rfl,rfl,rfl,rfl,rfl,rfl,rfl,rfl⟩
theorem r17:d9 a0m ((16:Int).toNat) = -1∧q7 a29 ((16:Int).toNat)=false∧d9 a2s ((16:Int).toNat)=0∧d9 a0l ((16:Int).toNat)=0∧q7 z5 ((16:Int).toNat)=false∧d9 z4 ((16:Int).toNat) = -2∧d9 a3e ((16:Int).toNat)=0∧q7 a0h ((16:Int).toNat)=false∧IntKind.i64.wrap (17 - 1)=16:=⟨rfl,rfl,rfl,rfl,rfl,rfl,rfl,rfl,rfl⟩
theorem c3i {k:Int} (h1:1≤k) (h2:k≤17):k=1∨k=2∨k=3∨k=4∨k=5∨k=6∨k=7∨k=8∨k=9∨k=10∨k=11∨k=12∨k=13∨k=14∨k=15∨k=16∨k=17:=by omega
def d4f (e:Ev):Prop:=p7 (({ g:=true,calls:=[kI1 152 a34] }:Kit)).tab Tryz.f123 [a67 e] [tbl] (l4 (.b (q9 e)))
theorem d2x (e:Ev):d4f e=(
 let a:=IntKind.i64.wrap (e.k - (1:Int))
 let b:=decide (e.ob < (0:Int)) || d9 a0m a.toNat !=(-1:Int) && decide (e.ob > d9 a0m a.toNat) || decide (e.rd < d9 a2s a.toNat) || d9 a0l a.toNat !=(-1:Int) && decide (e.rd > d9 a0l a.toNat)
 let c:=q7 z5 a.toNat && (decide (e.wr < (-2147483648:Int)) || decide (e.wr > (2147483647:Int))) || !q7 z5 a.toNat && e.wr !=(0:Int)
 let d:=decide (e.k < (1:Int)) || decide (e.k > (17:Int)) || decide (e.ix < (0:Int)) || !a34 e.ag ==(e.k ==(4:Int))
 let f:=q7 a29 a.toNat && (decide (e.od < (0:Int)) || decide (e.od > (2:Int))) || !q7 a29 a.toNat && e.od !=(0:Int)
 let g:=d9 z4 a.toNat ==(-2:Int) && e.en !=(-1:Int) || decide (e.en < d9 z4 a.toNat)
 (d=true→false=q9 e)∧(d=false→((0:Int)≤IntKind.i64.wrap (e.k - (1:Int))∧IntKind.i64.wrap (e.k - (1:Int)) < (↑(17:Nat):Int))∧a.toNat < (17:Nat)∧(b=true→false=q9 e)∧(b=false→(f=true→false=q9 e)∧(f=false→(c=true→false=q9 e)∧(c=false→(g=true→false=q9 e)∧(g=false→((e.k ==(12:Int))=true→(decide (e.mu ≥ (0:Int)) && decide (e.mu < (4:Int)))=q9 e)∧((e.k ==(12:Int))=false→(e.mu ==(-1:Int))=q9 e))))))):=by kernel_rfl
theorem v123 (e:Ev) :d4f e:=by
 rw[d2x]
 simp only[g9,a34]
 obtain⟨ag,ix,k,ob,mu,en,od,rd,wr⟩:=e
 dsimp only
 refine⟨fun h=>?_,fun h=>?_⟩
 ·simp only[q9]
  grind
 ·have hk:1≤k∧k≤17:=by grind
  rcases c3i hk.1 hk.2 with rfl | rfl | rfl | rfl | rfl | rfl | rfl | rfl | rfl | rfl | rfl | rfl | rfl | rfl | rfl | rfl | rfl
  ·obtain⟨a1,a2,a3,a4,a5,a6,a7,a8,a9⟩:=r1
   simp only[a9,a1,a2,a3,a4,a5,a6,q9,a34,a1u,a3t,a3i,v5,a1i,a4v,a0k,a0n] at h ⊢
   refine⟨by decide,by decide,?_⟩
   grind
  ·obtain⟨a1,a2,a3,a4,a5,a6,a7,a8,a9⟩:=r2
   simp only[a9,a1,a2,a3,a4,a5,a6,q9,a34,a1u,a3t,a3i,v5,a1i,a4v,a0k,a0n] at h ⊢
   refine⟨by decide,by decide,?_⟩
   grind
  ·obtain⟨a1,a2,a3,a4,a5,a6,a7,a8,a9⟩:=r3
   simp only[a9,a1,a2,a3,a4,a5,a6,q9,a34,a1u,a3t,a3i,v5,a1i,a4v,a0k,a0n] at h ⊢
   refine⟨by decide,by decide,?_⟩
   grind
  ·obtain⟨a1,a2,a3,a4,a5,a6,a7,a8,a9⟩:=r4
   simp only[a9,a1,a2,a3,a4,a5,a6,q9,a34,a1u,a3t,a3i,v5,a1i,a4v,a0k,a0n] at h ⊢
   refine⟨by decide,by decide,?_⟩
   grind
  ·obtain⟨a1,a2,a3,a4,a5,a6,a7,a8,a9⟩:=r5
   simp only[a9,a1,a2,a3,a4,a5,a6,q9,a34,a1u,a3t,a3i,v5,a1i,a4v,a0k,a0n] at h ⊢
   refine⟨by decide,by decide,?_⟩
   grind
  ·obtain⟨a1,a2,a3,a4,a5,a6,a7,a8,a9⟩:=r6
   simp only[a9,a1,a2,a3,a4,a5,a6,q9,a34,a1u,a3t,a3i,v5,a1i,a4v,a0k,a0n] at h ⊢
   refine⟨by decide,by decide,?_⟩
   grind
  ·obtain⟨a1,a2,a3,a4,a5,a6,a7,a8,a9⟩:=r7
   simp only[a9,a1,a2,a3,a4,a5,a6,q9,a34,a1u,a3t,a3i,v5,a1i,a4v,a0k,a0n] at h ⊢
   refine⟨by decide,by decide,?_⟩
   grind
  ·obtain⟨a1,a2,a3,a4,a5,a6,a7,a8,a9⟩:=r8
   simp only[a9,a1,a2,a3,a4,a5,a6,q9,a34,a1u,a3t,a3i,v5,a1i,a4v,a0k,a0n] at h ⊢
   refine⟨by decide,by decide,?_⟩
   grind
  ·obtain⟨a1,a2,a3,a4,a5,a6,a7,a8,a9⟩:=r9
   simp only[a9,a1,a2,a3,a4,a5,a6,q9,a34,a1u,a3t,a3i,v5,a1i,a4v,a0k,a0n] at h ⊢
   refine⟨by decide,by decide,?_⟩
   grind
  ·obtain⟨a1,a2,a3,a4,a5,a6,a7,a8,a9⟩:=r10
   simp only[a9,a1,a2,a3,a4,a5,a6,q9,a34,a1u,a3t,a3i,v5,a1i,a4v,a0k,a0n] at h ⊢
   refine⟨by decide,by decide,?_⟩
   grind
  ·obtain⟨a1,a2,a3,a4,a5,a6,a7,a8,a9⟩:=r11
   simp only[a9,a1,a2,a3,a4,a5,a6,q9,a34,a1u,a3t,a3i,v5,a1i,a4v,a0k,a0n] at h ⊢
   refine⟨by decide,by decide,?_⟩
   grind
  ·obtain⟨a1,a2,a3,a4,a5,a6,a7,a8,a9⟩:=r12
   simp only[a9,a1,a2,a3,a4,a5,a6,q9,a34,a1u,a3t,a3i,v5,a1i,a4v,a0k,a0n] at h ⊢
   refine⟨by decide,by decide,?_⟩
   grind
  ·obtain⟨a1,a2,a3,a4,a5,a6,a7,a8,a9⟩:=r13
   simp only[a9,a1,a2,a3,a4,a5,a6,q9,a34,a1u,a3t,a3i,v5,a1i,a4v,a0k,a0n] at h ⊢
   refine⟨by decide,by decide,?_⟩
   grind
  ·obtain⟨a1,a2,a3,a4,a5,a6,a7,a8,a9⟩:=r14
   simp only[a9,a1,a2,a3,a4,a5,a6,q9,a34,a1u,a3t,a3i,v5,a1i,a4v,a0k,a0n] at h ⊢
   refine⟨by decide,by decide,?_⟩
   grind
  ·obtain⟨a1,a2,a3,a4,a5,a6,a7,a8,a9⟩:=r15
   simp only[a9,a1,a2,a3,a4,a5,a6,q9,a34,a1u,a3t,a3i,v5,a1i,a4v,a0k,a0n] at h ⊢
   refine⟨by decide,by decide,?_⟩
   grind
  ·obtain⟨a1,a2,a3,a4,a5,a6,a7,a8,a9⟩:=r16
   simp only[a9,a1,a2,a3,a4,a5,a6,q9,a34,a1u,a3t,a3i,v5,a1i,a4v,a0k,a0n] at h ⊢
   refine⟨by decide,by decide,?_⟩
   grind
  ·obtain⟨a1,a2,a3,a4,a5,a6,a7,a8,a9⟩:=r17
   simp only[a9,a1,a2,a3,a4,a5,a6,q9,a34,a1u,a3t,a3i,v5,a1i,a4v,a0k,a0n] at h ⊢
   refine⟨by decide,by decide,?_⟩
   grind
def kVE:Nat × (List MBlk→List SV→Option AR):=(123,o5 EL gbT [] [.lf .ev] (sE1 q9))
theorem n123 (nm:List (Option AV)):CallOk Tryz.prog GL 123 (o5 EL gbT nm [.lf .ev] (sE1 q9)):=a5j Tryz.func123 d9g fun av pre rv h=>by
 unfold sE1 at h; split at h <;> cases h
 exact⟨⟨rfl,fun t a e=>by cases e <;> exact z0h _ _⟩,fun hp=>⟨_,v123 _ ,rfl,(m9 (a1o (n152 _)) t9),u4⟩⟩
def rdE (e:Ev):Bool:=a0k e.k
def wrE (e:Ev):Bool:=e.k == 2 || e.k == 5
def a7r (e:Ev):Int:=bif e.k == 9 || e.k == 10 || e.k == 11 then e.ob else bif e.k == 12 then e.mu else -1
def a3w (e:Ev):Int:=bif e.k == 12 || e.k == 13 || e.k == 14 || e.k == 15 then e.ob else -1
def b01 (e:Ev):Int:=bif e.k == 9 || e.k == 10 || e.k == 11 then e.ob else e.mu
def b0e (a b:Ev):Bool:=(decide (a7r a ≥ 0) && a7r a == a7r b) || (decide (a3w a ≥ 0) && a3w a == a3w b)
theorem fo80:p8 Tryz.prog 80:=⟨Tryz.f80,Tryz.func80,by kernel_rfl,by kernel_rfl⟩
theorem fo81:p8 Tryz.prog 81:=⟨Tryz.f81,Tryz.func81,by kernel_rfl,by kernel_rfl⟩
theorem fo86:p8 Tryz.prog 86:=⟨Tryz.f86,Tryz.func86,by kernel_rfl,by kernel_rfl⟩
theorem fo84:p8 Tryz.prog 84:=⟨Tryz.f84,Tryz.func84,by kernel_rfl,by kernel_rfl⟩
theorem d98:p8 Tryz.prog 113:=⟨Tryz.f113,Tryz.func113,by kernel_rfl,by kernel_rfl⟩
theorem d99:p8 Tryz.prog 114:=⟨Tryz.f114,Tryz.func114,by kernel_rfl,by kernel_rfl⟩
theorem d9q:p8 Tryz.prog 139:=⟨Tryz.f139,Tryz.func139,by kernel_rfl,by kernel_rfl⟩
theorem d9r:p8 Tryz.prog 140:=⟨Tryz.f140,Tryz.func140,by kernel_rfl,by kernel_rfl⟩
theorem fo58:p8 Tryz.prog 58:=⟨Tryz.f58,Tryz.func58,by kernel_rfl,by kernel_rfl⟩
def q80D (e:Ev):Prop:=p7 (({}:Kit)).tab Tryz.f80 [a67 e] [] (l4 (.b (rdE e)))
theorem d8a (e:Ev):q80D e=((e.k == (1:Int) || e.k == (8:Int) || e.k == (5:Int) || e.k == (6:Int))=rdE e):=by kernel_rfl
theorem v80 (e:Ev) :q80D e:=by
 rw[d8a]
 first | rfl | (simp only[rdE,a0k]; grind)
def q81D (e:Ev):Prop:=p7 (({}:Kit)).tab Tryz.f81 [a67 e] [] (l4 (.b (wrE e)))
theorem d8b (e:Ev):q81D e=((e.k == (2:Int) || e.k == (5:Int))=wrE e):=by kernel_rfl
theorem v81 (e:Ev) :q81D e:=by
 rw[d8b]
 first | rfl | (simp only[wrE,a0k]; grind)
def q86D (e:Ev):Prop:=p7 (({}:Kit)).tab Tryz.f86 [a67 e] [] (l4 (.b (rdE e)))
theorem d8g (e:Ev):q86D e=((e.k == (1:Int) || e.k == (8:Int) || e.k == (5:Int) || e.k == (6:Int))=rdE e):=by kernel_rfl
theorem v86 (e:Ev) :q86D e:=by
 rw[d8g]
 first | rfl | (simp only[rdE,a0k]; grind)
def q84D (e:Ev):Prop:=p7 (({}:Kit)).tab Tryz.f84 [a67 e] [] (l4 (.b (wrE e)))
theorem d8e (e:Ev):q84D e=((e.k == (2:Int) || e.k == (5:Int))=wrE e):=by kernel_rfl
theorem v84 (e:Ev) :q84D e:=by
 rw[d8e]
 first | rfl | (simp only[wrE,a0k]; grind)
def d4a (e:Ev):Prop:=p7 (({}:Kit)).tab Tryz.f113 [a67 e] [] (l4 (.i .i64 (a7r e)))
theorem d2q (e:Ev):d4a e=(((e.k == (9:Int))=true→e.ob=a7r e)∧((e.k == (9:Int))=false→((e.k == (10:Int))=true→e.ob=a7r e)∧((e.k == (10:Int))=false→((e.k == (11:Int))=true→e.ob=a7r e)∧((e.k == (11:Int))=false→((e.k == (12:Int))=true→e.mu=a7r e)∧((e.k == (12:Int))=false→(-1:Int)=a7r e))))):=by kernel_rfl
theorem v113 (e:Ev) :d4a e:=by
 rw[d2q]
 first | rfl | (simp only[a7r,a0k]; grind)
def d4b (e:Ev):Prop:=p7 (({}:Kit)).tab Tryz.f114 [a67 e] [] (l4 (.i .i64 (a3w e)))
theorem d2r (e:Ev):d4b e=(((e.k == (12:Int))=true→e.ob=a3w e)∧((e.k == (12:Int))=false→((e.k == (13:Int))=true→e.ob=a3w e)∧((e.k == (13:Int))=false→((e.k == (14:Int))=true→e.ob=a3w e)∧((e.k == (14:Int))=false→((e.k == (15:Int))=true→e.ob=a3w e)∧((e.k == (15:Int))=false→(-1:Int)=a3w e))))):=by kernel_rfl
theorem v114 (e:Ev) :d4b e:=by
 rw[d2r]
 first | rfl | (simp only[a3w,a0k]; grind)
def d4p (e:Ev):Prop:=p7 (({}:Kit)).tab Tryz.f139 [a67 e] [] (l4 (.i .i64 (b01 e)))
theorem d37 (e:Ev):d4p e=(((e.k == (9:Int) || e.k == (10:Int) || e.k == (11:Int))=true→e.ob=b01 e)∧((e.k == (9:Int) || e.k == (10:Int) || e.k == (11:Int))=false→e.mu=b01 e)):=by kernel_rfl
theorem v139 (e:Ev) :d4p e:=by
 rw[d37]
 first | rfl | (simp only[b01,a0k]; grind)
def d4q (e:Ev):Prop:=p7 (({}:Kit)).tab Tryz.f140 [a67 e] [] (l4 (.i .i64 (a3w e)))
theorem d38 (e:Ev):d4q e=(((e.k == (12:Int) || e.k == (13:Int) || e.k == (14:Int) || e.k == (15:Int))=true→e.ob=a3w e)∧((e.k == (12:Int) || e.k == (13:Int) || e.k == (14:Int) || e.k == (15:Int))=false→(-1:Int)=a3w e)):=by kernel_rfl
theorem v140 (e:Ev) :d4q e:=by
 rw[d38]
 first | rfl | (simp only[a3w,a0k]; grind)
def q58D (e d:Ev):Prop:=p7 (({ calls:=[d0v 113 a7r,d0v 114 a3w] }:Kit)).tab Tryz.f58 [a67 e,a67 d] [] (l4 (.b (b0e e d)))
theorem d7v (e d:Ev):q58D e d=((decide (a7r e ≥ (0:Int)) && a7r e == a7r d || decide (a3w e ≥ (0:Int)) && a3w e == a3w d)=b0e e d):=by kernel_rfl
theorem v58 (e d:Ev) :q58D e d:=by
 rw[d7v]
 first | rfl | (simp only[b0e]; grind)
theorem n80 (nm:List (Option AV)):CallOk Tryz.prog [] 80 (o5 EL none nm [.lf .ev] (sE1 rdE)):=x4 Tryz.func80 fo80 fun av pre rv h=>by
 unfold sE1 at h; split at h <;> cases h
 exact⟨⟨rfl,fun t a e=>by cases e <;> exact z0h _ _⟩,fun hp=>⟨_,v80 _ ,rfl,t9,u4⟩⟩
theorem n81 (nm:List (Option AV)):CallOk Tryz.prog [] 81 (o5 EL none nm [.lf .ev] (sE1 wrE)):=x4 Tryz.func81 fo81 fun av pre rv h=>by
 unfold sE1 at h; split at h <;> cases h
 exact⟨⟨rfl,fun t a e=>by cases e <;> exact z0h _ _⟩,fun hp=>⟨_,v81 _ ,rfl,t9,u4⟩⟩
theorem n86 (nm:List (Option AV)):CallOk Tryz.prog [] 86 (o5 EL none nm [.lf .ev] (sE1 rdE)):=x4 Tryz.func86 fo86 fun av pre rv h=>by
 unfold sE1 at h; split at h <;> cases h
 exact⟨⟨rfl,fun t a e=>by cases e <;> exact z0h _ _⟩,fun hp=>⟨_,v86 _ ,rfl,t9,u4⟩⟩
theorem n84 (nm:List (Option AV)):CallOk Tryz.prog [] 84 (o5 EL none nm [.lf .ev] (sE1 wrE)):=x4 Tryz.func84 fo84 fun av pre rv h=>by
 unfold sE1 at h; split at h <;> cases h
 exact⟨⟨rfl,fun t a e=>by cases e <;> exact z0h _ _⟩,fun hp=>⟨_,v84 _ ,rfl,t9,u4⟩⟩
theorem n113 (nm:List (Option AV)):CallOk Tryz.prog [] 113 (o5 EL none nm [.lf .ev] (b8h a7r)):=x4 Tryz.func113 d98 fun av pre rv h=>by
 unfold b8h at h; split at h <;> cases h
 exact⟨⟨rfl,fun t a e=>by cases e <;> exact z0h _ _⟩,fun hp=>⟨_,v113 _ ,rfl,t9,u4⟩⟩
theorem n114 (nm:List (Option AV)):CallOk Tryz.prog [] 114 (o5 EL none nm [.lf .ev] (b8h a3w)):=x4 Tryz.func114 d99 fun av pre rv h=>by
 unfold b8h at h; split at h <;> cases h
 exact⟨⟨rfl,fun t a e=>by cases e <;> exact z0h _ _⟩,fun hp=>⟨_,v114 _ ,rfl,t9,u4⟩⟩
theorem n139 (nm:List (Option AV)):CallOk Tryz.prog [] 139 (o5 EL none nm [.lf .ev] (b8h b01)):=x4 Tryz.func139 d9q fun av pre rv h=>by
 unfold b8h at h; split at h <;> cases h
 exact⟨⟨rfl,fun t a e=>by cases e <;> exact z0h _ _⟩,fun hp=>⟨_,v139 _ ,rfl,t9,u4⟩⟩
theorem n140 (nm:List (Option AV)):CallOk Tryz.prog [] 140 (o5 EL none nm [.lf .ev] (b8h a3w)):=x4 Tryz.func140 d9r fun av pre rv h=>by
 unfold b8h at h; split at h <;> cases h
 exact⟨⟨rfl,fun t a e=>by cases e <;> exact z0h _ _⟩,fun hp=>⟨_,v140 _ ,rfl,t9,u4⟩⟩
theorem n58 (nm:List (Option AV)):CallOk Tryz.prog [] 58 (o5 EL none nm [.lf .ev,.lf .ev] (sE2 b0e)):=x4 Tryz.func58 fo58 fun av pre rv h=>by
 unfold sE2 at h; split at h <;> cases h
 exact⟨⟨rfl,fun t a e=>by cases e <;> exact z0h _ _⟩,fun hp=>⟨_,v58 _ _ ,rfl,(m9 (n113 _) (m9 (n114 _) t9)),u4⟩⟩
end Go.Proofs.YtaeeaniofljmnaaGreatDoor

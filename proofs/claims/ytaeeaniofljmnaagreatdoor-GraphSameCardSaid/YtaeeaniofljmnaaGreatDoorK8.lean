/-
  A part of the proof (K8).
-/
import Derived.Test.YtaeeaniofljmnaaGreatDoorK4
namespace Go.Proofs.YtaeeaniofljmnaaGreatDoor
set_option linter.unusedSimpArgs false
set_option linter.unusedVariables false
open Go Go.Proofs.YtaeeaniofljmnaaGreatDoor.Sx
set_option maxRecDepth 100000
def mixA (f:Pf) (m a:Nat):Pf:=fun x y=>bif decide (x < (a:Int)) then wF f (m + 1) x y else wF f m x y
def mixB (f:Pf) (m a b:Nat):Pf:=fun x y=>bif decide (x < (a:Int)) || (decide (x=(a:Int)) && decide (y < (b:Int))) then wF f (m + 1) x y else wF f m x y
def d8c (e n:Nat) (f:Pf):Nat × MBlk:=(e,.oarr 4 (n * n) (b15 (d3l n f)))
def lWm (n:Nat) (f:Pf) (t e:Nat):LAnn:=s8 n t (fun _=>True) (fun m=>[d8c e n (wF f m)]) []
def lWa (n:Nat) (f:Pf) (t e:Nat):PLoop:=⟨Nat,fun m=>s8 n t (fun _=>m < n) (fun a=>[d8c e n (mixA f m a)]) []⟩
def lWb (n:Nat) (f:Pf) (t e:Nat):PLoop:=⟨Nat × Nat,fun p=>s8 n t (fun _=>p.1 < n∧p.2 < n) (fun b=>[d8c e n (mixB f p.1 p.2 b)]) []⟩
def a30 (n:Nat) (f:Pf):Bool:=(List.range n).all (fun a=>!f a a)
def c2n (n:Nat) (f:Pf) (t:Nat):LAnn:=s8 n t (fun i=>a30 i f=true) (fun _=>[]) []
def sCld:Sp:=fun | [.r N l]=>some ([g7 N l=true,L9 l],.sl (fun k=>.sl 0 k) (.bs (d3l N.toNat (wF (f7 l) N.toNat)))) | _=>none
def d0c:Sp:=fun | [.r N l]=>some ([L9 l],.sl (b5d (bif g7 N l then N else 0)) (.ps (bif g7 N l then b9 N (wF (f7 l) N.toNat) else []))) | _=>none
def d07:Sp:=fun | [.r N l]=>some ([L9 l],.pl (.b (g7 N l && a30 N.toNat (wF (f7 l) N.toNat)))) | _=>none
def kClo (nm:List (Option AV)):Nat × (List MBlk→List SV→Option AR):=(110,a29 EL nm [.r] d0c)
def kAcy (nm:List (Option AV)):Nat × (List MBlk→List SV→Option AR):=(63,a29 EL nm [.r] d07)
theorem d97 (N:Int) (l:List Pq):(s4 (tab [b8f [],c5u []] [(0,.of (c2n N.toNat (wF (f7 l) N.toNat) 12))]) Tryz.f63 [rlV N 0 l] [arP l] (m4 (.b (g7 N l && a30 N.toNat (wF (f7 l) N.toNat)))))=(
 let a:=((0:Int),(0:Int))
 let c:=wF (f7 l) N.toNat
 let d:=N=N∧l.length=l.length
 let e:=g7 N l && a30 N.toNat c
 let f:=PLoop.of (c2n N.toNat c (12:Nat))
 l.length=l.length∧(mkN (fun(j:Nat)=>((b7 a l j).fst,(b7 a l j).snd)) l.length).length≤(1099511627776:Nat)∧((!g7 N (mkN (fun(j:Nat)=>((b7 a l j).fst,(b7 a l j).snd)) l.length))=true→false=e)∧((!g7 N (mkN (fun(j:Nat)=>((b7 a l j).fst,(b7 a l j).snd)) l.length))=false→l.length=l.length∧g7 N (mkN (fun(j:Nat)=>((b7 a l j).fst,(b7 a l j).snd)) l.length)=true∧(mkN (fun(j:Nat)=>((b7 a l j).fst,(b7 a l j).snd)) l.length).length≤(1099511627776:Nat)∧∃(x:PUnit),(∃(x:Nat),(x≤N.toNat∧a30 x c=true)∧((0:Int)=(↑x:Int)∧True)∧True)∧∀(x_1:Nat),x_1≤N.toNat∧a30 x_1 c=true→(decide ((↑x_1:Int) < N)=true→(wF (f7 (mkN (fun(j:Nat)=>((b7 a l j).fst,(b7 a l j).snd)) l.length)) N.toNat (↑x_1:Int) (↑x_1:Int)=true→false=e)∧(wF (f7 (mkN (fun(j:Nat)=>((b7 a l j).fst,(b7 a l j).snd)) l.length)) N.toNat (↑x_1:Int) (↑x_1:Int)=false→∃(x_2:Nat),(x_2≤N.toNat∧a30 x_2 c=true)∧(f.ann x).mu x_2 < (f.ann x).mu x_1∧(d∧True∧True∧d∧g7 N (mkN (fun(j:Nat)=>((b7 a l j).fst,(b7 a l j).snd)) l.length)=g7 N (mkN (fun(j:Nat)=>((b7 a l j).fst,(b7 a l j).snd)) l.length)∧false=false∧d∧True∧True∧N=N∧IntKind.i64.wrap ((↑x_1:Int) + (1:Int))=(↑x_2:Int)∧True)∧(l.length=l.length∧(∀(j:Nat),j < l.length→(b7 a l j).fst=(b7 a l j).fst)∧(∀(j:Nat),j < l.length→(b7 a l j).snd=(b7 a l j).snd)∧True)∧d∧(∀(x y:Int),wF (f7 (mkN (fun(j:Nat)=>((b7 a l j).fst,(b7 a l j).snd)) l.length)) N.toNat x y=wF (f7 (mkN (fun(j:Nat)=>((b7 a l j).fst,(b7 a l j).snd)) l.length)) N.toNat x y)∧True))∧(decide ((↑x_1:Int) < N)=false→true=e))):=by kernel_rfl
theorem v63 (N:Int) (l:List Pq) (hl:L9 l):s4 (tab [b8f [],c5u []] [(0,.of (c2n N.toNat (wF (f7 l) N.toNat) 12))]) Tryz.f63 [rlV N 0 l] [arP l] (m4 (.b (g7 N l && a30 N.toNat (wF (f7 l) N.toNat)))):=by
 rw[d97]
 simp only[eq_self,true_and,and_true,z0o,imp_self,o6,o8,i7,i9,PLoop.of,s8,AV.len,b5x,lWm,lWa,lWb,c2n]
 refine⟨hl,fun h=>?_,fun h=>?_⟩
 ·have hv:g7 N l=false:=by simpa using h
  rw[hv]; rfl
 ·have hv:g7 N l=true:=by simpa using h
  obtain⟨h1,h2,h3⟩:=a0f.1 hv
  rw[hv]
  refine⟨rfl,hl,(),⟨0,by simp[a30],rfl⟩,fun i hi=>⟨fun hlt=>?_,fun hlt=>?_⟩⟩
  ·have hlt2:=z0e hlt
   refine⟨fun hc=>?_,fun hc=>?_⟩
   ·have e:a30 N.toNat (wF (f7 l) N.toNat)=false:=by
     rw[a30,List.all_eq_false]
     exact⟨i,z2q.2 (by omega),by rw[hc]; simp⟩
    rw[e]; rfl
   ·exact⟨i + 1,⟨by omega,by rw[a30,List.range_succ,List.all_append]; rw[a30] at hi; rw[hi.2]; simp[hc]⟩,by omega,wrS (n:=64) (by omega) (by omega)⟩
  ·have hlt2:=z0i hlt
   have e:i=N.toNat:=by omega
   have hi3:=hi.2
   rw[e] at hi3
   rw[hi3]; rfl
theorem d3x (N:Int) (l:List Pq):(s4 (tab [b8f [],c5u [],b8e []] []) Tryz.f110 [rlV N 0 l] [arP l] (a7g (b5d (bif g7 N l then N else 0) (n6 (g7 N l) (b9 N (wF (f7 l) N.toNat))).length) 67 (n6 (g7 N l) (b9 N (wF (f7 l) N.toNat))).length (a1y (n6 (g7 N l) (b9 N (wF (f7 l) N.toNat))))))=(
 let a:=((0:Int),(0:Int))
 let b:=n6 (g7 N l) (b9 N (wF (f7 l) N.toNat))
 l.length=l.length∧(mkN (fun(j:Nat)=>((b7 a l j).fst,(b7 a l j).snd)) l.length).length≤(1099511627776:Nat)∧((!g7 N (mkN (fun(j:Nat)=>((b7 a l j).fst,(b7 a l j).snd)) l.length))=true→b.length=(0:Nat)∧((0:Int)=bif g7 N l then N else(0:Int))∧b.length=(0:Nat)∧True)∧((!g7 N (mkN (fun(j:Nat)=>((b7 a l j).fst,(b7 a l j).snd)) l.length))=false→l.length=l.length∧g7 N (mkN (fun(j:Nat)=>((b7 a l j).fst,(b7 a l j).snd)) l.length)=true∧(mkN (fun(j:Nat)=>((b7 a l j).fst,(b7 a l j).snd)) l.length).length≤(1099511627776:Nat)∧((0:Int)≤N∧N≤(64:Int))∧(AV.ps (b9 N (wF (f7 (mkN (fun(j:Nat)=>((b7 a l j).fst,(b7 a l j).snd)) l.length)) N.toNat))).len=b.length∧((∀(j:Nat),j < b.length→(b7 a (b9 N (wF (f7 (mkN (fun(j:Nat)=>((b7 a l j).fst,(b7 a l j).snd)) l.length)) N.toNat)) j).fst=(b7 a b j).fst)∧(∀(j:Nat),j < b.length→(b7 a (b9 N (wF (f7 (mkN (fun(j:Nat)=>((b7 a l j).fst,(b7 a l j).snd)) l.length)) N.toNat)) j).snd=(b7 a b j).snd)∧True)∧(N=bif g7 N l then N else(0:Int))∧(AV.ps (b9 N (wF (f7 (mkN (fun(j:Nat)=>((b7 a l j).fst,(b7 a l j).snd)) l.length)) N.toNat))).len=b.length∧True)):=by kernel_rfl
theorem v110 (N:Int) (l:List Pq) (hl:L9 l):s4 (tab [b8f [],c5u [],b8e []] []) Tryz.f110 [rlV N 0 l] [arP l] (a7g (b5d (bif g7 N l then N else 0) (n6 (g7 N l) (b9 N (wF (f7 l) N.toNat))).length) 67 (n6 (g7 N l) (b9 N (wF (f7 l) N.toNat))).length (a1y (n6 (g7 N l) (b9 N (wF (f7 l) N.toNat))))):=by
 rw[d3x]
 simp only[eq_self,true_and,and_true,z0o,imp_self,o6,o8,i7,i9,PLoop.of,s8,AV.len,b5x,lWm,lWa,lWb,c2n]
 refine⟨hl,fun h=>?_,fun h=>?_⟩
 ·have hv:g7 N l=false:=by simpa using h
  simp[hv,n6]
 ·have hv:g7 N l=true:=by simpa using h
  obtain⟨h1,h2,h3⟩:=a0f.1 hv
  rw[hv]
  simp only[n6,z0f,eq_self,true_and,and_true,z0o,b5x]
  exact⟨hl,h1,h2⟩
theorem fo63:s5 Tryz.prog 63:=⟨Tryz.f63,Tryz.func63,by kernel_rfl,by kernel_rfl⟩
theorem e0e:s5 Tryz.prog 110:=⟨Tryz.f110,Tryz.func110,by kernel_rfl,by kernel_rfl⟩
def t63:List AV→Tab
 | [.r N l]=>tab [b8f [],c5u []] [(0,.of (c2n N.toNat (wF (f7 l) N.toNat) 12))]
 | _=>tab [] []
theorem c63:CallOk Tryz.prog [] 63 (a29 EL [] [.r] d07):=by
 refine okT (fn:=Tryz.f63) Tryz.func63 fo63 t63 (fun av=>?_) (fun av=>?_) (fun av pre rv h=>?_) (fun av pre rv h hp=>?_)
 ·unfold t63; split <;> first | exact a4z (b2x (d6v _) (b2x (n120 _) a70)) | exact a4z a70
 ·unfold t63; split <;> exact⟨rfl,rfl⟩
 ·unfold d07 at h; split at h <;> cases h
  exact⟨rfl,fun t a e=>by cases e <;> exact z0h _ _⟩
 ·unfold d07 at h; split at h <;> cases h
  exact v63 _ _ (hp _ (.head _))
theorem n63 (nm:List (Option AV)):CallOk Tryz.prog [] 63 (a29 EL nm [.r] d07):=a90 c63
def d82:List AV→Tab
 | [.r N l]=>tab [b8f [],c5u [],b8e []] []
 | _=>tab [] []
theorem c110:CallOk Tryz.prog [] 110 (a29 EL [] [.r] d0c):=by
 refine okT (fn:=Tryz.f110) Tryz.func110 e0e d82 (fun av=>?_) (fun av=>?_) (fun av pre rv h=>?_) (fun av pre rv h hp=>?_)
 ·unfold d82; split <;> first | exact a4z (b2x (d6v _) (b2x (n120 _) (b2x (d6x _) a70))) | exact a4z a70
 ·unfold d82; split <;> exact⟨rfl,rfl⟩
 ·unfold d0c at h; split at h <;> cases h
  exact⟨rfl,fun t a e=>by cases e <;> exact z0h _ _⟩
 ·unfold d0c at h; split at h <;> cases h
  exact v110 _ _ (hp _ (.head _))
theorem n110 (nm:List (Option AV)):CallOk Tryz.prog [] 110 (a29 EL nm [.r] d0c):=a90 c110
abbrev SpP:=List PV→Option (List Prop × QV)
theorem a1n {G:List (Nat × Nat)} {f:Nat} {F:List MBlk→List SV→Option AR} (h:CallOk Tryz.prog [] f F):CallOk Tryz.prog G f F:=⟨h.fn,fun ρ W m vs xs ar _ h2 h3 h4 h5 h6 h7=>h.ok ρ W m vs xs ar (fun g r hg=>by cases hg) h2 h3 h4 h5 h6 h7⟩
def plB (b:Bool):QV:=.rv (.pl (.b b))
def plI (n:Int):QV:=.rv (.pl (.i .i64 n))
def sI1 (f:Int→Bool):SpP:=fun | [.lf (.i n)]=>some ([],plB (f n)) | _=>none
def sI2 (f:Int→Int→Bool):SpP:=fun | [.lf (.i n),.lf (.i m)]=>some ([],plB (f n m)) | _=>none
def sE1 (f:Ev→Bool):SpP:=fun | [.lf (.ev e)]=>some ([],plB (f e)) | _=>none
def b9b (f:Ev→Int):SpP:=fun | [.lf (.ev e)]=>some ([],plI (f e)) | _=>none
def sE2 (f:Ev→Ev→Bool):SpP:=fun | [.lf (.ev e),.lf (.ev d)]=>some ([],plB (f e d)) | _=>none
def KC:=Nat × (List MBlk→List SV→Option AR)
def kI1 (n:Nat) (f:Int→Bool):Nat × (List MBlk→List SV→Option AR):=(n,q6 EL none [] [.lf .i] (sI1 f))
def kI2 (n:Nat) (f:Int→Int→Bool):Nat × (List MBlk→List SV→Option AR):=(n,q6 EL none [] [.lf .i,.lf .i] (sI2 f))
def kE1 (n:Nat) (f:Ev→Bool):Nat × (List MBlk→List SV→Option AR):=(n,q6 EL none [] [.lf .ev] (sE1 f))
def d22 (n:Nat) (f:Ev→Int):Nat × (List MBlk→List SV→Option AR):=(n,q6 EL none [] [.lf .ev] (b9b f))
def kE2 (n:Nat) (f:Ev→Ev→Bool):Nat × (List MBlk→List SV→Option AR):=(n,q6 EL none [] [.lf .ev,.lf .ev] (sE2 f))
def a3b (n:Int):Bool:=decide (n < 0)
theorem e0q:s5 Tryz.prog 125:=⟨Tryz.f125,Tryz.func125,by kernel_rfl,by kernel_rfl⟩
theorem e19:s5 Tryz.prog 152:=⟨Tryz.f152,Tryz.func152,by kernel_rfl,by kernel_rfl⟩
theorem e0v:s5 Tryz.prog 130:=⟨Tryz.f130,Tryz.func130,by kernel_rfl,by kernel_rfl⟩
theorem e0u:s5 Tryz.prog 129:=⟨Tryz.f129,Tryz.func129,by kernel_rfl,by kernel_rfl⟩
theorem e1a:s5 Tryz.prog 153:=⟨Tryz.f153,Tryz.func153,by kernel_rfl,by kernel_rfl⟩
theorem e0w:s5 Tryz.prog 131:=⟨Tryz.f131,Tryz.func131,by kernel_rfl,by kernel_rfl⟩
theorem e0x:s5 Tryz.prog 132:=⟨Tryz.f132,Tryz.func132,by kernel_rfl,by kernel_rfl⟩
theorem e0r:s5 Tryz.prog 126:=⟨Tryz.f126,Tryz.func126,by kernel_rfl,by kernel_rfl⟩
theorem e0s:s5 Tryz.prog 127:=⟨Tryz.f127,Tryz.func127,by kernel_rfl,by kernel_rfl⟩
theorem e0t:s5 Tryz.prog 128:=⟨Tryz.f128,Tryz.func128,by kernel_rfl,by kernel_rfl⟩
theorem fo85:s5 Tryz.prog 85:=⟨Tryz.f85,Tryz.func85,by kernel_rfl,by kernel_rfl⟩
theorem e0o:s5 Tryz.prog 123:=⟨Tryz.f123,Tryz.func123,by kernel_rfl,by kernel_rfl⟩
def d5q (n:Int):Prop:=s4 (({}:Kit)).tab Tryz.f125 [.i .i64 n] [] (m4 (.b (a3b n)))
theorem d47 (n:Int):d5q n=(decide (n < (0:Int))=a3b n):=by kernel_rfl
theorem v125 (n:Int) :d5q n:=by
 rw[d47]
 rfl
def d64 (n:Int):Prop:=s4 (({}:Kit)).tab Tryz.f152 [.i .i64 n] [] (m4 (.b (a3b n)))
theorem d4p (n:Int):d64 n=(decide (n < (0:Int))=a3b n):=by kernel_rfl
theorem v152 (n:Int) :d64 n:=by
 rw[d4p]
 rfl
def d5v (n:Int):Prop:=s4 (({}:Kit)).tab Tryz.f130 [.i .i64 n] [] (m4 (.b (a1w n)))
theorem d4c (n:Int):d5v n=((decide (n ≥ (-2147483648:Int)) && decide (n≤(2147483647:Int)))=a1w n):=by kernel_rfl
theorem v130 (n:Int) :d5v n:=by
 rw[d4c]
 rfl
def d5u (n:Int):Prop:=s4 (({}:Kit)).tab Tryz.f129 [.i .i64 n] [] (m4 (.b (a54 n)))
theorem d4b (n:Int):d5u n=((n == (1:Int) || n == (2:Int) || n == (3:Int) || n == (5:Int) || n == (6:Int) || n == (8:Int))=a54 n):=by kernel_rfl
theorem v129 (n:Int) :d5u n:=by
 rw[d4b]
 rfl
def d65 (n:Int):Prop:=s4 (({}:Kit)).tab Tryz.f153 [.i .i64 n] [] (m4 (.b (a0v n)))
theorem d4q (n:Int):d65 n=((n == (1:Int) || n == (8:Int) || n == (5:Int) || n == (6:Int))=a0v n):=by kernel_rfl
theorem v153 (n:Int) :d65 n:=by
 rw[d4q]
 rfl
def d5w (n:Int):Prop:=s4 (({}:Kit)).tab Tryz.f131 [.i .i64 n] [] (m4 (.b (a0y n)))
theorem d4d (n:Int):d5w n=((n == (2:Int) || n == (3:Int) || n == (4:Int) || n == (5:Int))=a0y n):=by kernel_rfl
theorem v131 (n:Int) :d5w n:=by
 rw[d4d]
 rfl
def d5x (n m:Int):Prop:=s4 (({}:Kit)).tab Tryz.f132 [.i .i64 n,.i .i64 m] [] (m4 (.b (w6 n m)))
theorem d4e (n m:Int):d5x n m=((decide (n ≥ (0:Int)) && decide (n < m))=w6 n m):=by kernel_rfl
theorem v132 (n m:Int) :d5x n m:=by
 rw[d4e]
 rfl
def d5r (e:Ev):Prop:=s4 (({ calls:=[kI2 132 w6] }:Kit)).tab Tryz.f126 [a5o e] [] (m4 (.b (a26 e)))
theorem d48 (e:Ev):d5r e=(
 let a:=(4:Int)
 ((e.k ==(7:Int))=true→(e.ob ==(0:Int))=a26 e)∧((e.k ==(7:Int))=false→((e.k ==(9:Int))=true→w6 e.ob a=a26 e)∧((e.k ==(9:Int))=false→((e.k ==(10:Int))=true→w6 e.ob a=a26 e)∧((e.k ==(10:Int))=false→((e.k ==(11:Int))=true→w6 e.ob a=a26 e)∧((e.k ==(11:Int))=false→((e.k ==(12:Int))=true→w6 e.ob a=a26 e)∧((e.k ==(12:Int))=false→((e.k ==(13:Int))=true→w6 e.ob a=a26 e)∧((e.k ==(13:Int))=false→((e.k ==(14:Int))=true→w6 e.ob a=a26 e)∧((e.k ==(14:Int))=false→((e.k ==(15:Int))=true→w6 e.ob a=a26 e)∧((e.k ==(15:Int))=false→((e.k ==(16:Int))=true→decide (e.ob ≥ (0:Int))=a26 e)∧((e.k ==(16:Int))=false→((e.k ==(17:Int))=true→decide (e.ob ≥ (0:Int))=a26 e)∧((e.k ==(17:Int))=false→w6 e.ob (8:Int)=a26 e))))))))))):=by kernel_rfl
theorem v126 (e:Ev) :d5r e:=by
 rw[d48]
 simp only[a26]; grind
def d5s (e:Ev):Prop:=s4 (({ calls:=[kI2 132 w6,kI1 130 a1w,kI1 153 a0v] }:Kit)).tab Tryz.f127 [a5o e] [] (m4 (.b (a3z e)))
theorem d49 (e:Ev):d5s e=(((e.k == (11:Int))=true→w6 e.rd (2:Int)=a3z e)∧((e.k == (11:Int))=false→((e.k == (14:Int))=true→w6 e.rd (2:Int)=a3z e)∧((e.k == (14:Int))=false→((e.k == (15:Int))=true→decide (e.rd ≥ (0:Int))=a3z e)∧((e.k == (15:Int))=false→(a1w e.rd && (a0v e.k || e.rd == (0:Int)))=a3z e)))):=by kernel_rfl
theorem v127 (e:Ev) :d5s e:=by
 rw[d49]
 simp only[a3z]; grind
def d5t (e:Ev):Prop:=s4 (({}:Kit)).tab Tryz.f128 [a5o e] [] (m4 (.b (a3p e)))
theorem d4a (e:Ev):d5t e=(((e.k == (1:Int))=true→decide (e.en ≥ (-1:Int))=a3p e)∧((e.k == (1:Int))=false→((e.k == (8:Int))=true→decide (e.en ≥ (-1:Int))=a3p e)∧((e.k == (8:Int))=false→((e.k == (3:Int))=true→decide (e.en ≥ (0:Int))=a3p e)∧((e.k == (3:Int))=false→((e.k == (4:Int))=true→decide (e.en ≥ (0:Int))=a3p e)∧((e.k == (4:Int))=false→(e.en == (-1:Int))=a3p e))))):=by kernel_rfl
theorem v128 (e:Ev) :d5t e:=by
 rw[d4a]
 simp only[a3p]; grind
def q85D (e:Ev):Prop:=s4 (({ calls:=[kI2 132 w6,kI1 130 a1w,kI1 153 a0v,kI1 125 a3b,kI1 129 a54,kI1 131 a0y,kE1 126 a26,kE1 127 a3z,kE1 128 a3p] }:Kit)).tab Tryz.f85 [a5o e] [] (m4 (.b (t4 e)))
theorem d9k (e:Ev):q85D e=(
 let a:=decide (e.k < (1:Int)) || decide (e.k > (17:Int)) || !a3b e.ag ==(e.k ==(4:Int)) || decide (e.ix < (0:Int)) || !a26 e || !a3z e || !a3p e
 let b:=decide (e.od < (0:Int)) || decide (e.od > (2:Int)) || !a54 e.k && e.od !=(0:Int) || !a1w e.wr || !a0y e.k && e.wr !=(0:Int)
 (a=true→false=t4 e)∧(a=false→(b=true→false=t4 e)∧(b=false→((e.k ==(12:Int))=true→w6 e.mu (4:Int)=t4 e)∧((e.k ==(12:Int))=false→(e.mu ==(-1:Int))=t4 e)))):=by kernel_rfl
theorem v85 (e:Ev) :q85D e:=by
 rw[d9k]
 simp only[z0o,true_and,and_true,if_true,a3b]
 obtain⟨ag,ix,k,ob,mu,en,od,rd,wr⟩:=e
 simp only[t4] <;> grind
theorem n125 (nm:List (Option AV)):CallOk Tryz.prog [] 125 (q6 EL none nm [.lf .i] (sI1 a3b)):=z4 Tryz.func125 e0q fun av pre rv h=>by
 unfold sI1 at h; split at h <;> cases h
 exact⟨⟨rfl,fun t a e=>by cases e <;> exact z0h _ _⟩,fun hp=>⟨_,v125 _ ,rfl,v4,v5⟩⟩
theorem n152 (nm:List (Option AV)):CallOk Tryz.prog [] 152 (q6 EL none nm [.lf .i] (sI1 a3b)):=z4 Tryz.func152 e19 fun av pre rv h=>by
 unfold sI1 at h; split at h <;> cases h
 exact⟨⟨rfl,fun t a e=>by cases e <;> exact z0h _ _⟩,fun hp=>⟨_,v152 _ ,rfl,v4,v5⟩⟩
theorem n130 (nm:List (Option AV)):CallOk Tryz.prog [] 130 (q6 EL none nm [.lf .i] (sI1 a1w)):=z4 Tryz.func130 e0v fun av pre rv h=>by
 unfold sI1 at h; split at h <;> cases h
 exact⟨⟨rfl,fun t a e=>by cases e <;> exact z0h _ _⟩,fun hp=>⟨_,v130 _ ,rfl,v4,v5⟩⟩
theorem n129 (nm:List (Option AV)):CallOk Tryz.prog [] 129 (q6 EL none nm [.lf .i] (sI1 a54)):=z4 Tryz.func129 e0u fun av pre rv h=>by
 unfold sI1 at h; split at h <;> cases h
 exact⟨⟨rfl,fun t a e=>by cases e <;> exact z0h _ _⟩,fun hp=>⟨_,v129 _ ,rfl,v4,v5⟩⟩
theorem n153 (nm:List (Option AV)):CallOk Tryz.prog [] 153 (q6 EL none nm [.lf .i] (sI1 a0v)):=z4 Tryz.func153 e1a fun av pre rv h=>by
 unfold sI1 at h; split at h <;> cases h
 exact⟨⟨rfl,fun t a e=>by cases e <;> exact z0h _ _⟩,fun hp=>⟨_,v153 _ ,rfl,v4,v5⟩⟩
theorem n131 (nm:List (Option AV)):CallOk Tryz.prog [] 131 (q6 EL none nm [.lf .i] (sI1 a0y)):=z4 Tryz.func131 e0w fun av pre rv h=>by
 unfold sI1 at h; split at h <;> cases h
 exact⟨⟨rfl,fun t a e=>by cases e <;> exact z0h _ _⟩,fun hp=>⟨_,v131 _ ,rfl,v4,v5⟩⟩
theorem d6w (nm:List (Option AV)):CallOk Tryz.prog [] 132 (q6 EL none nm [.lf .i,.lf .i] (sI2 w6)):=z4 Tryz.func132 e0x fun av pre rv h=>by
 unfold sI2 at h; split at h <;> cases h
 exact⟨⟨rfl,fun t a e=>by cases e <;> exact z0h _ _⟩,fun hp=>⟨_,v132 _ _ ,rfl,v4,v5⟩⟩
theorem n126 (nm:List (Option AV)):CallOk Tryz.prog [] 126 (q6 EL none nm [.lf .ev] (sE1 a26)):=z4 Tryz.func126 e0r fun av pre rv h=>by
 unfold sE1 at h; split at h <;> cases h
 exact⟨⟨rfl,fun t a e=>by cases e <;> exact z0h _ _⟩,fun hp=>⟨_,v126 _ ,rfl,(o5 (d6w _) v4),v5⟩⟩
theorem n127 (nm:List (Option AV)):CallOk Tryz.prog [] 127 (q6 EL none nm [.lf .ev] (sE1 a3z)):=z4 Tryz.func127 e0s fun av pre rv h=>by
 unfold sE1 at h; split at h <;> cases h
 exact⟨⟨rfl,fun t a e=>by cases e <;> exact z0h _ _⟩,fun hp=>⟨_,v127 _ ,rfl,(o5 (d6w _) (o5 (n130 _) (o5 (n153 _) v4))),v5⟩⟩
theorem n128 (nm:List (Option AV)):CallOk Tryz.prog [] 128 (q6 EL none nm [.lf .ev] (sE1 a3p)):=z4 Tryz.func128 e0t fun av pre rv h=>by
 unfold sE1 at h; split at h <;> cases h
 exact⟨⟨rfl,fun t a e=>by cases e <;> exact z0h _ _⟩,fun hp=>⟨_,v128 _ ,rfl,v4,v5⟩⟩
theorem n85 (nm:List (Option AV)):CallOk Tryz.prog [] 85 (q6 EL none nm [.lf .ev] (sE1 t4)):=z4 Tryz.func85 fo85 fun av pre rv h=>by
 unfold sE1 at h; split at h <;> cases h
 exact⟨⟨rfl,fun t a e=>by cases e <;> exact z0h _ _⟩,fun hp=>⟨_,v85 _ ,rfl,(o5 (d6w _) (o5 (n130 _) (o5 (n153 _) (o5 (n125 _) (o5 (n129 _) (o5 (n131 _) (o5 (n126 _) (o5 (n127 _) (o5 (n128 _) v4))))))))),v5⟩⟩
theorem r1:g8 a0x ((0:Int).toNat)=7∧s9 a2g ((0:Int).toNat)=true∧g8 a2z ((0:Int).toNat) = -2147483648∧g8 a0w ((0:Int).toNat)=2147483647∧s9 a05 ((0:Int).toNat)=false∧g8 a04 ((0:Int).toNat) = -1∧g8 a3n ((0:Int).toNat)=1∧s9 a0s ((0:Int).toNat)=false∧IntKind.i64.wrap (1 - 1)=0:=⟨rfl,rfl,rfl,rfl,rfl,rfl,rfl,rfl,rfl⟩
theorem r2:g8 a0x ((1:Int).toNat)=7∧s9 a2g ((1:Int).toNat)=true∧g8 a2z ((1:Int).toNat)=0∧g8 a0w ((1:Int).toNat)=0∧s9 a05 ((1:Int).toNat)=true∧g8 a04 ((1:Int).toNat) = -2∧g8 a3n ((1:Int).toNat)=1∧s9 a0s ((1:Int).toNat)=true∧IntKind.i64.wrap (2 - 1)=1:=⟨rfl,rfl,rfl,rfl,rfl,rfl,rfl,rfl,rfl⟩
theorem r3:g8 a0x ((2:Int).toNat)=7∧s9 a2g ((2:Int).toNat)=true∧g8 a2z ((2:Int).toNat)=0∧g8 a0w ((2:Int).toNat)=0∧s9 a05 ((2:Int).toNat)=true∧g8 a04 ((2:Int).toNat)=0∧g8 a3n ((2:Int).toNat)=4∧s9 a0s ((2:Int).toNat)=true∧IntKind.i64.wrap (3 - 1)=2:=⟨rfl,rfl,rfl,rfl,rfl,rfl,rfl,rfl,rfl⟩
theorem r4:g8 a0x ((3:Int).toNat)=7∧s9 a2g ((3:Int).toNat)=false∧g8 a2z ((3:Int).toNat)=0∧g8 a0w ((3:Int).toNat)=0∧s9 a05 ((3:Int).toNat)=true∧g8 a04 ((3:Int).toNat)=0∧g8 a3n ((3:Int).toNat)=1∧s9 a0s ((3:Int).toNat)=true∧IntKind.i64.wrap (4 - 1)=3:=⟨rfl,rfl,rfl,rfl,rfl,rfl,rfl,rfl,rfl⟩
theorem r5:g8 a0x ((4:Int).toNat)=7∧s9 a2g ((4:Int).toNat)=true∧g8 a2z ((4:Int).toNat) = -2147483648∧g8 a0w ((4:Int).toNat)=2147483647∧s9 a05 ((4:Int).toNat)=true∧g8 a04 ((4:Int).toNat) = -2∧g8 a3n ((4:Int).toNat)=1∧s9 a0s ((4:Int).toNat)=true∧IntKind.i64.wrap (5 - 1)=4:=⟨rfl,rfl,rfl,rfl,rfl,rfl,rfl,rfl,rfl⟩
theorem r6:g8 a0x ((5:Int).toNat)=7∧s9 a2g ((5:Int).toNat)=true∧g8 a2z ((5:Int).toNat) = -2147483648∧g8 a0w ((5:Int).toNat)=2147483647∧s9 a05 ((5:Int).toNat)=false∧g8 a04 ((5:Int).toNat) = -2∧g8 a3n ((5:Int).toNat)=1∧s9 a0s ((5:Int).toNat)=false∧IntKind.i64.wrap (6 - 1)=5:=⟨rfl,rfl,rfl,rfl,rfl,rfl,rfl,rfl,rfl⟩
theorem r7:g8 a0x ((6:Int).toNat)=0∧s9 a2g ((6:Int).toNat)=false∧g8 a2z ((6:Int).toNat)=0∧g8 a0w ((6:Int).toNat)=0∧s9 a05 ((6:Int).toNat)=false∧g8 a04 ((6:Int).toNat) = -2∧g8 a3n ((6:Int).toNat)=0∧s9 a0s ((6:Int).toNat)=false∧IntKind.i64.wrap (7 - 1)=6:=⟨rfl,rfl,rfl,rfl,rfl,rfl,rfl,rfl,rfl⟩
theorem r8:g8 a0x ((7:Int).toNat)=7∧s9 a2g ((7:Int).toNat)=true∧g8 a2z ((7:Int).toNat) = -2147483648∧g8 a0w ((7:Int).toNat)=2147483647∧s9 a05 ((7:Int).toNat)=false∧g8 a04 ((7:Int).toNat) = -1∧g8 a3n ((7:Int).toNat)=1∧s9 a0s ((7:Int).toNat)=false∧IntKind.i64.wrap (8 - 1)=7:=⟨rfl,rfl,rfl,rfl,rfl,rfl,rfl,rfl,rfl⟩
theorem r9:g8 a0x ((8:Int).toNat)=3∧s9 a2g ((8:Int).toNat)=false∧g8 a2z ((8:Int).toNat)=0∧g8 a0w ((8:Int).toNat)=0∧s9 a05 ((8:Int).toNat)=false∧g8 a04 ((8:Int).toNat) = -2∧g8 a3n ((8:Int).toNat)=2∧s9 a0s ((8:Int).toNat)=true∧IntKind.i64.wrap (9 - 1)=8:=⟨rfl,rfl,rfl,rfl,rfl,rfl,rfl,rfl,rfl⟩
theorem r10:g8 a0x ((9:Int).toNat)=3∧s9 a2g ((9:Int).toNat)=false∧g8 a2z ((9:Int).toNat)=0∧g8 a0w ((9:Int).toNat)=0∧s9 a05 ((9:Int).toNat)=false∧g8 a04 ((9:Int).toNat) = -2∧g8 a3n ((9:Int).toNat)=2∧s9 a0s ((9:Int).toNat)=true∧IntKind.i64.wrap (10 - 1)=9:=⟨rfl,rfl,rfl,rfl,rfl,rfl,rfl,rfl,rfl⟩
theorem r11:g8 a0x ((10:Int).toNat)=3∧s9 a2g ((10:Int).toNat)=false∧g8 a2z ((10:Int).toNat)=0∧g8 a0w ((10:Int).toNat)=1∧s9 a05 ((10:Int).toNat)=false∧g8 a04 ((10:Int).toNat) = -2∧g8 a3n ((10:Int).toNat)=2∧s9 a0s ((10:Int).toNat)=true∧IntKind.i64.wrap (11 - 1)=10:=⟨rfl,rfl,rfl,rfl,rfl,rfl,rfl,rfl,rfl⟩
theorem r12:g8 a0x ((11:Int).toNat)=3∧s9 a2g ((11:Int).toNat)=false∧g8 a2z ((11:Int).toNat)=0∧g8 a0w ((11:Int).toNat)=0∧s9 a05 ((11:Int).toNat)=false∧g8 a04 ((11:Int).toNat) = -2∧g8 a3n ((11:Int).toNat)=3∧s9 a0s ((11:Int).toNat)=true∧IntKind.i64.wrap (12 - 1)=11:=⟨rfl,rfl,rfl,rfl,rfl,rfl,rfl,rfl,rfl⟩
theorem r13:g8 a0x ((12:Int).toNat)=3∧s9 a2g ((12:Int).toNat)=false∧g8 a2z ((12:Int).toNat)=0∧g8 a0w ((12:Int).toNat)=0∧s9 a05 ((12:Int).toNat)=false∧g8 a04 ((12:Int).toNat) = -2∧g8 a3n ((12:Int).toNat)=3∧s9 a0s ((12:Int).toNat)=true∧IntKind.i64.wrap (13 - 1)=12:=⟨rfl,rfl,rfl,rfl,rfl,rfl,rfl,rfl,rfl⟩
theorem r14:g8 a0x ((13:Int).toNat)=3∧s9 a2g ((13:Int).toNat)=false∧g8 a2z ((13:Int).toNat)=0∧g8 a0w ((13:Int).toNat)=1∧s9 a05 ((13:Int).toNat)=false∧g8 a04 ((13:Int).toNat) = -2∧g8 a3n ((13:Int).toNat)=3∧s9 a0s ((13:Int).toNat)=true∧IntKind.i64.wrap (14 - 1)=13:=⟨rfl,rfl,rfl,rfl,rfl,rfl,rfl,rfl,rfl⟩
theorem r15:g8 a0x ((14:Int).toNat)=3∧s9 a2g ((14:Int).toNat)=false∧g8 a2z ((14:Int).toNat)=0∧g8 a0w ((14:Int).toNat) = -1∧s9 a05 ((14:Int).toNat)=false∧g8 a04 ((14:Int).toNat) = -2∧g8 a3n ((14:Int).toNat)=3∧s9 a0s ((14:Int).toNat)=true∧IntKind.i64.wrap (15 - 1)=14:=⟨rfl,rfl,rfl,rfl,rfl,rfl,rfl,rfl,rfl⟩
theorem r16:g8 a0x ((15:Int).toNat) = -1∧s9 a2g ((15:Int).toNat)=false∧g8 a2z ((15:Int).toNat)=0∧g8 a0w ((15:Int).toNat)=0∧s9 a05 ((15:Int).toNat)=false∧g8 a04 ((15:Int).toNat) = -2∧g8 a3n ((15:Int).toNat)=0∧s9 a0s ((15:Int).toNat)=false∧IntKind.i64.wrap (16 - 1)=15:=⟨rfl,rfl,rfl,rfl,rfl,rfl,rfl,rfl,rfl⟩
theorem r17:g8 a0x ((16:Int).toNat) = -1∧s9 a2g ((16:Int).toNat)=false∧g8 a2z ((16:Int).toNat)=0∧g8 a0w ((16:Int).toNat)=0∧s9 a05 ((16:Int).toNat)=false∧g8 a04 ((16:Int).toNat) = -2∧g8 a3n ((16:Int).toNat)=0∧s9 a0s ((16:Int).toNat)=false∧IntKind.i64.wrap (17 - 1)=16:=⟨rfl,rfl,rfl,rfl,rfl,rfl,rfl,rfl,rfl⟩
theorem c4g {k:Int} (h1:1≤k) (h2:k≤17):k=1∨k=2∨k=3∨k=4∨k=5∨k=6∨k=7∨k=8∨k=9∨k=10∨k=11∨k=12∨k=13∨k=14∨k=15∨k=16∨k=17:=by omega
def d5o (e:Ev):Prop:=s4 (({ g:=true,calls:=[kI1 152 a3b] }:Kit)).tab Tryz.f123 [a5o e] [tbl] (m4 (.b (t4 e)))
theorem d45 (e:Ev):d5o e=(
 let a:=IntKind.i64.wrap (e.k - (1:Int))
 let b:=decide (e.ob < (0:Int)) || g8 a0x a.toNat !=(-1:Int) && decide (e.ob > g8 a0x a.toNat) || decide (e.rd < g8 a2z a.toNat) || g8 a0w a.toNat !=(-1:Int) && decide (e.rd > g8 a0w a.toNat)
 let c:=s9 a05 a.toNat && (decide (e.wr < (-2147483648:Int)) || decide (e.wr > (2147483647:Int))) || !s9 a05 a.toNat && e.wr !=(0:Int)
 let d:=decide (e.k < (1:Int)) || decide (e.k > (17:Int)) || decide (e.ix < (0:Int)) || !a3b e.ag ==(e.k ==(4:Int))
 let f:=s9 a2g a.toNat && (decide (e.od < (0:Int)) || decide (e.od > (2:Int))) || !s9 a2g a.toNat && e.od !=(0:Int)
 let g:=g8 a04 a.toNat ==(-2:Int) && e.en !=(-1:Int) || decide (e.en < g8 a04 a.toNat)
 (d=true→false=t4 e)∧(d=false→((0:Int)≤IntKind.i64.wrap (e.k - (1:Int))∧IntKind.i64.wrap (e.k - (1:Int)) < (↑(17:Nat):Int))∧a.toNat < (17:Nat)∧(b=true→false=t4 e)∧(b=false→(f=true→false=t4 e)∧(f=false→(c=true→false=t4 e)∧(c=false→(g=true→false=t4 e)∧(g=false→((e.k ==(12:Int))=true→(decide (e.mu ≥ (0:Int)) && decide (e.mu < (4:Int)))=t4 e)∧((e.k ==(12:Int))=false→(e.mu ==(-1:Int))=t4 e))))))):=by kernel_rfl
theorem v123 (e:Ev) :d5o e:=by
 rw[d45]
 simp only[j4,a3b]
 obtain⟨ag,ix,k,ob,mu,en,od,rd,wr⟩:=e
 dsimp only
 refine⟨fun h=>?_,fun h=>?_⟩
 ·simp only[t4]
  grind
 ·have hk:1≤k∧k≤17:=by grind
  rcases c4g hk.1 hk.2 with rfl | rfl | rfl | rfl | rfl | rfl | rfl | rfl | rfl | rfl | rfl | rfl | rfl | rfl | rfl | rfl | rfl
  ·obtain⟨a1,a2,a3,a4,a5,a6,a7,a8,a9⟩:=r1
   simp only[a9,a1,a2,a3,a4,a5,a6,t4,a3b,a26,a3z,a3p,w6,a1w,a54,a0v,a0y] at h ⊢
   refine⟨by decide,by decide,?_⟩
   grind
  ·obtain⟨a1,a2,a3,a4,a5,a6,a7,a8,a9⟩:=r2
   simp only[a9,a1,a2,a3,a4,a5,a6,t4,a3b,a26,a3z,a3p,w6,a1w,a54,a0v,a0y] at h ⊢
   refine⟨by decide,by decide,?_⟩
   grind
  ·obtain⟨a1,a2,a3,a4,a5,a6,a7,a8,a9⟩:=r3
   simp only[a9,a1,a2,a3,a4,a5,a6,t4,a3b,a26,a3z,a3p,w6,a1w,a54,a0v,a0y] at h ⊢
   refine⟨by decide,by decide,?_⟩
   grind
  ·obtain⟨a1,a2,a3,a4,a5,a6,a7,a8,a9⟩:=r4
   simp only[a9,a1,a2,a3,a4,a5,a6,t4,a3b,a26,a3z,a3p,w6,a1w,a54,a0v,a0y] at h ⊢
   refine⟨by decide,by decide,?_⟩
   grind
  ·obtain⟨a1,a2,a3,a4,a5,a6,a7,a8,a9⟩:=r5
   simp only[a9,a1,a2,a3,a4,a5,a6,t4,a3b,a26,a3z,a3p,w6,a1w,a54,a0v,a0y] at h ⊢
   refine⟨by decide,by decide,?_⟩
   grind
  ·obtain⟨a1,a2,a3,a4,a5,a6,a7,a8,a9⟩:=r6
   simp only[a9,a1,a2,a3,a4,a5,a6,t4,a3b,a26,a3z,a3p,w6,a1w,a54,a0v,a0y] at h ⊢
   refine⟨by decide,by decide,?_⟩
   grind
  ·obtain⟨a1,a2,a3,a4,a5,a6,a7,a8,a9⟩:=r7
   simp only[a9,a1,a2,a3,a4,a5,a6,t4,a3b,a26,a3z,a3p,w6,a1w,a54,a0v,a0y] at h ⊢
   refine⟨by decide,by decide,?_⟩
   grind
  ·obtain⟨a1,a2,a3,a4,a5,a6,a7,a8,a9⟩:=r8
   simp only[a9,a1,a2,a3,a4,a5,a6,t4,a3b,a26,a3z,a3p,w6,a1w,a54,a0v,a0y] at h ⊢
   refine⟨by decide,by decide,?_⟩
   grind
  ·obtain⟨a1,a2,a3,a4,a5,a6,a7,a8,a9⟩:=r9
   simp only[a9,a1,a2,a3,a4,a5,a6,t4,a3b,a26,a3z,a3p,w6,a1w,a54,a0v,a0y] at h ⊢
   refine⟨by decide,by decide,?_⟩
   grind
  ·obtain⟨a1,a2,a3,a4,a5,a6,a7,a8,a9⟩:=r10
   simp only[a9,a1,a2,a3,a4,a5,a6,t4,a3b,a26,a3z,a3p,w6,a1w,a54,a0v,a0y] at h ⊢
   refine⟨by decide,by decide,?_⟩
   grind
  ·obtain⟨a1,a2,a3,a4,a5,a6,a7,a8,a9⟩:=r11
   simp only[a9,a1,a2,a3,a4,a5,a6,t4,a3b,a26,a3z,a3p,w6,a1w,a54,a0v,a0y] at h ⊢
   refine⟨by decide,by decide,?_⟩
   grind
  ·obtain⟨a1,a2,a3,a4,a5,a6,a7,a8,a9⟩:=r12
   simp only[a9,a1,a2,a3,a4,a5,a6,t4,a3b,a26,a3z,a3p,w6,a1w,a54,a0v,a0y] at h ⊢
   refine⟨by decide,by decide,?_⟩
   grind
  ·obtain⟨a1,a2,a3,a4,a5,a6,a7,a8,a9⟩:=r13
   simp only[a9,a1,a2,a3,a4,a5,a6,t4,a3b,a26,a3z,a3p,w6,a1w,a54,a0v,a0y] at h ⊢
   refine⟨by decide,by decide,?_⟩
   grind
  ·obtain⟨a1,a2,a3,a4,a5,a6,a7,a8,a9⟩:=r14
   simp only[a9,a1,a2,a3,a4,a5,a6,t4,a3b,a26,a3z,a3p,w6,a1w,a54,a0v,a0y] at h ⊢
   refine⟨by decide,by decide,?_⟩
   grind
  ·obtain⟨a1,a2,a3,a4,a5,a6,a7,a8,a9⟩:=r15
   simp only[a9,a1,a2,a3,a4,a5,a6,t4,a3b,a26,a3z,a3p,w6,a1w,a54,a0v,a0y] at h ⊢
   refine⟨by decide,by decide,?_⟩
   grind
  ·obtain⟨a1,a2,a3,a4,a5,a6,a7,a8,a9⟩:=r16
   simp only[a9,a1,a2,a3,a4,a5,a6,t4,a3b,a26,a3z,a3p,w6,a1w,a54,a0v,a0y] at h ⊢
   refine⟨by decide,by decide,?_⟩
   grind
  ·obtain⟨a1,a2,a3,a4,a5,a6,a7,a8,a9⟩:=r17
   simp only[a9,a1,a2,a3,a4,a5,a6,t4,a3b,a26,a3z,a3p,w6,a1w,a54,a0v,a0y] at h ⊢
   refine⟨by decide,by decide,?_⟩
   grind
def kVE:Nat × (List MBlk→List SV→Option AR):=(123,q6 EL gbT [] [.lf .ev] (sE1 t4))
theorem n123 (nm:List (Option AV)):CallOk Tryz.prog GL 123 (q6 EL gbT nm [.lf .ev] (sE1 t4)):=a5i Tryz.func123 e0o fun av pre rv h=>by
 unfold sE1 at h; split at h <;> cases h
 exact⟨⟨rfl,fun t a e=>by cases e <;> exact z0h _ _⟩,fun hp=>⟨_,v123 _ ,rfl,(o5 (a1n (n152 _)) v4),v5⟩⟩
def rdE (e:Ev):Bool:=a0v e.k
def wrE (e:Ev):Bool:=e.k == 2 || e.k == 5
def a83 (e:Ev):Int:=bif e.k == 9 || e.k == 10 || e.k == 11 then e.ob else bif e.k == 12 then e.mu else -1
def a43 (e:Ev):Int:=bif e.k == 12 || e.k == 13 || e.k == 14 || e.k == 15 then e.ob else -1
def b0l (e:Ev):Int:=bif e.k == 9 || e.k == 10 || e.k == 11 then e.ob else e.mu
def a41 (a b:Ev):Bool:=(decide (a83 a ≥ 0) && a83 a == a83 b) || (decide (a43 a ≥ 0) && a43 a == a43 b)
theorem fo80:s5 Tryz.prog 80:=⟨Tryz.f80,Tryz.func80,by kernel_rfl,by kernel_rfl⟩
theorem fo81:s5 Tryz.prog 81:=⟨Tryz.f81,Tryz.func81,by kernel_rfl,by kernel_rfl⟩
theorem fo86:s5 Tryz.prog 86:=⟨Tryz.f86,Tryz.func86,by kernel_rfl,by kernel_rfl⟩
theorem fo84:s5 Tryz.prog 84:=⟨Tryz.f84,Tryz.func84,by kernel_rfl,by kernel_rfl⟩
theorem e0h:s5 Tryz.prog 113:=⟨Tryz.f113,Tryz.func113,by kernel_rfl,by kernel_rfl⟩
theorem e0i:s5 Tryz.prog 114:=⟨Tryz.f114,Tryz.func114,by kernel_rfl,by kernel_rfl⟩
theorem e0y:s5 Tryz.prog 139:=⟨Tryz.f139,Tryz.func139,by kernel_rfl,by kernel_rfl⟩
theorem e0z:s5 Tryz.prog 140:=⟨Tryz.f140,Tryz.func140,by kernel_rfl,by kernel_rfl⟩
theorem fo58:s5 Tryz.prog 58:=⟨Tryz.f58,Tryz.func58,by kernel_rfl,by kernel_rfl⟩
def q80D (e:Ev):Prop:=s4 (({}:Kit)).tab Tryz.f80 [a5o e] [] (m4 (.b (rdE e)))
theorem d9f (e:Ev):q80D e=((e.k == (1:Int) || e.k == (8:Int) || e.k == (5:Int) || e.k == (6:Int))=rdE e):=by kernel_rfl
theorem v80 (e:Ev) :q80D e:=by
 rw[d9f]
 first | rfl | (simp only[rdE,a0v]; grind)
def q81D (e:Ev):Prop:=s4 (({}:Kit)).tab Tryz.f81 [a5o e] [] (m4 (.b (wrE e)))
theorem d9g (e:Ev):q81D e=((e.k == (2:Int) || e.k == (5:Int))=wrE e):=by kernel_rfl
theorem v81 (e:Ev) :q81D e:=by
 rw[d9g]
 first | rfl | (simp only[wrE,a0v]; grind)
def q86D (e:Ev):Prop:=s4 (({}:Kit)).tab Tryz.f86 [a5o e] [] (m4 (.b (rdE e)))
theorem d9l (e:Ev):q86D e=((e.k == (1:Int) || e.k == (8:Int) || e.k == (5:Int) || e.k == (6:Int))=rdE e):=by kernel_rfl
theorem v86 (e:Ev) :q86D e:=by
 rw[d9l]
 first | rfl | (simp only[rdE,a0v]; grind)
def q84D (e:Ev):Prop:=s4 (({}:Kit)).tab Tryz.f84 [a5o e] [] (m4 (.b (wrE e)))
theorem d9j (e:Ev):q84D e=((e.k == (2:Int) || e.k == (5:Int))=wrE e):=by kernel_rfl
theorem v84 (e:Ev) :q84D e:=by
 rw[d9j]
 first | rfl | (simp only[wrE,a0v]; grind)
def d5k (e:Ev):Prop:=s4 (({}:Kit)).tab Tryz.f113 [a5o e] [] (m4 (.i .i64 (a83 e)))
theorem d3z (e:Ev):d5k e=(((e.k == (9:Int))=true→e.ob=a83 e)∧((e.k == (9:Int))=false→((e.k == (10:Int))=true→e.ob=a83 e)∧((e.k == (10:Int))=false→((e.k == (11:Int))=true→e.ob=a83 e)∧((e.k == (11:Int))=false→((e.k == (12:Int))=true→e.mu=a83 e)∧((e.k == (12:Int))=false→(-1:Int)=a83 e))))):=by kernel_rfl
theorem v113 (e:Ev) :d5k e:=by
 rw[d3z]
 first | rfl | (simp only[a83,a0v]; grind)
def d5l (e:Ev):Prop:=s4 (({}:Kit)).tab Tryz.f114 [a5o e] [] (m4 (.i .i64 (a43 e)))
theorem d40 (e:Ev):d5l e=(((e.k == (12:Int))=true→e.ob=a43 e)∧((e.k == (12:Int))=false→((e.k == (13:Int))=true→e.ob=a43 e)∧((e.k == (13:Int))=false→((e.k == (14:Int))=true→e.ob=a43 e)∧((e.k == (14:Int))=false→((e.k == (15:Int))=true→e.ob=a43 e)∧((e.k == (15:Int))=false→(-1:Int)=a43 e))))):=by kernel_rfl
theorem v114 (e:Ev) :d5l e:=by
 rw[d40]
 first | rfl | (simp only[a43,a0v]; grind)
def d5y (e:Ev):Prop:=s4 (({}:Kit)).tab Tryz.f139 [a5o e] [] (m4 (.i .i64 (b0l e)))
theorem d4f (e:Ev):d5y e=(((e.k == (9:Int) || e.k == (10:Int) || e.k == (11:Int))=true→e.ob=b0l e)∧((e.k == (9:Int) || e.k == (10:Int) || e.k == (11:Int))=false→e.mu=b0l e)):=by kernel_rfl
theorem v139 (e:Ev) :d5y e:=by
 rw[d4f]
 first | rfl | (simp only[b0l,a0v]; grind)
def d5z (e:Ev):Prop:=s4 (({}:Kit)).tab Tryz.f140 [a5o e] [] (m4 (.i .i64 (a43 e)))
theorem d4g (e:Ev):d5z e=(((e.k == (12:Int) || e.k == (13:Int) || e.k == (14:Int) || e.k == (15:Int))=true→e.ob=a43 e)∧((e.k == (12:Int) || e.k == (13:Int) || e.k == (14:Int) || e.k == (15:Int))=false→(-1:Int)=a43 e)):=by kernel_rfl
theorem v140 (e:Ev) :d5z e:=by
 rw[d4g]
 first | rfl | (simp only[a43,a0v]; grind)
def q58D (e d:Ev):Prop:=s4 (({ calls:=[d22 113 a83,d22 114 a43] }:Kit)).tab Tryz.f58 [a5o e,a5o d] [] (m4 (.b (a41 e d)))
theorem d94 (e d:Ev):q58D e d=((decide (a83 e ≥ (0:Int)) && a83 e == a83 d || decide (a43 e ≥ (0:Int)) && a43 e == a43 d)=a41 e d):=by kernel_rfl
theorem v58 (e d:Ev) :q58D e d:=by
 rw[d94]
 first | rfl | (simp only[a41]; grind)
theorem n80 (nm:List (Option AV)):CallOk Tryz.prog [] 80 (q6 EL none nm [.lf .ev] (sE1 rdE)):=z4 Tryz.func80 fo80 fun av pre rv h=>by
 unfold sE1 at h; split at h <;> cases h
 exact⟨⟨rfl,fun t a e=>by cases e <;> exact z0h _ _⟩,fun hp=>⟨_,v80 _ ,rfl,v4,v5⟩⟩
theorem n81 (nm:List (Option AV)):CallOk Tryz.prog [] 81 (q6 EL none nm [.lf .ev] (sE1 wrE)):=z4 Tryz.func81 fo81 fun av pre rv h=>by
 unfold sE1 at h; split at h <;> cases h
 exact⟨⟨rfl,fun t a e=>by cases e <;> exact z0h _ _⟩,fun hp=>⟨_,v81 _ ,rfl,v4,v5⟩⟩
theorem n86 (nm:List (Option AV)):CallOk Tryz.prog [] 86 (q6 EL none nm [.lf .ev] (sE1 rdE)):=z4 Tryz.func86 fo86 fun av pre rv h=>by
 unfold sE1 at h; split at h <;> cases h
 exact⟨⟨rfl,fun t a e=>by cases e <;> exact z0h _ _⟩,fun hp=>⟨_,v86 _ ,rfl,v4,v5⟩⟩
theorem n84 (nm:List (Option AV)):CallOk Tryz.prog [] 84 (q6 EL none nm [.lf .ev] (sE1 wrE)):=z4 Tryz.func84 fo84 fun av pre rv h=>by
 unfold sE1 at h; split at h <;> cases h
 exact⟨⟨rfl,fun t a e=>by cases e <;> exact z0h _ _⟩,fun hp=>⟨_,v84 _ ,rfl,v4,v5⟩⟩
theorem n113 (nm:List (Option AV)):CallOk Tryz.prog [] 113 (q6 EL none nm [.lf .ev] (b9b a83)):=z4 Tryz.func113 e0h fun av pre rv h=>by
 unfold b9b at h; split at h <;> cases h
 exact⟨⟨rfl,fun t a e=>by cases e <;> exact z0h _ _⟩,fun hp=>⟨_,v113 _ ,rfl,v4,v5⟩⟩
theorem n114 (nm:List (Option AV)):CallOk Tryz.prog [] 114 (q6 EL none nm [.lf .ev] (b9b a43)):=z4 Tryz.func114 e0i fun av pre rv h=>by
 unfold b9b at h; split at h <;> cases h
 exact⟨⟨rfl,fun t a e=>by cases e <;> exact z0h _ _⟩,fun hp=>⟨_,v114 _ ,rfl,v4,v5⟩⟩
theorem n139 (nm:List (Option AV)):CallOk Tryz.prog [] 139 (q6 EL none nm [.lf .ev] (b9b b0l)):=z4 Tryz.func139 e0y fun av pre rv h=>by
 unfold b9b at h; split at h <;> cases h
 exact⟨⟨rfl,fun t a e=>by cases e <;> exact z0h _ _⟩,fun hp=>⟨_,v139 _ ,rfl,v4,v5⟩⟩
theorem n140 (nm:List (Option AV)):CallOk Tryz.prog [] 140 (q6 EL none nm [.lf .ev] (b9b a43)):=z4 Tryz.func140 e0z fun av pre rv h=>by
 unfold b9b at h; split at h <;> cases h
 exact⟨⟨rfl,fun t a e=>by cases e <;> exact z0h _ _⟩,fun hp=>⟨_,v140 _ ,rfl,v4,v5⟩⟩
theorem n58 (nm:List (Option AV)):CallOk Tryz.prog [] 58 (q6 EL none nm [.lf .ev,.lf .ev] (sE2 a41)):=z4 Tryz.func58 fo58 fun av pre rv h=>by
 unfold sE2 at h; split at h <;> cases h
 exact⟨⟨rfl,fun t a e=>by cases e <;> exact z0h _ _⟩,fun hp=>⟨_,v58 _ _ ,rfl,(o5 (n113 _) (o5 (n114 _) v4)),v5⟩⟩
end Go.Proofs.YtaeeaniofljmnaaGreatDoor

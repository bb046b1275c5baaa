/-
  A part of the proof (N8).
-/
import Derived.Test.YtaeeaniofljmnaaGreatDoorN4
namespace Go.Proofs.YtaeeaniofljmnaaGreatDoor
set_option linter.unusedSimpArgs false
set_option linter.unusedVariables false
open Go Go.Proofs.YtaeeaniofljmnaaGreatDoor.Sx
set_option maxRecDepth 100000
def mixA (f:Pf) (m a:Nat):Pf:=fun x y=>bif decide (x < (a:Int)) then wF f (m + 1) x y else wF f m x y
def mixB (f:Pf) (m a b:Nat):Pf:=fun x y=>bif decide (x < (a:Int)) || (decide (x=(a:Int)) && decide (y < (b:Int))) then wF f (m + 1) x y else wF f m x y
def d4w (e n:Nat) (f:Pf):Nat × MBlk:=(e,.oarr 4 (n * n) (a9t (d0x n f)))
def lWm (n:Nat) (f:Pf) (t e:Nat):LAnn:=s5 n t (fun _=>True) (fun m=>[d4w e n (wF f m)]) []
def lWa (n:Nat) (f:Pf) (t e:Nat):PLoop:=⟨Nat,fun m=>s5 n t (fun _=>m < n) (fun a=>[d4w e n (mixA f m a)]) []⟩
def lWb (n:Nat) (f:Pf) (t e:Nat):PLoop:=⟨Nat × Nat,fun p=>s5 n t (fun _=>p.1 < n∧p.2 < n) (fun b=>[d4w e n (mixB f p.1 p.2 b)]) []⟩
def a28 (n:Nat) (f:Pf):Bool:=(List.range n).all (fun a=>!f a a)
def c0p (n:Nat) (f:Pf) (t:Nat):LAnn:=s5 n t (fun i=>a28 i f=true) (fun _=>[]) []
def sCld:Sp:=fun | [.r N l]=>some ([d9 N l=true,L9 l],.sl (fun k=>.sl 0 k) (.bs (d0x N.toNat (wF (e9 l) N.toNat)))) | _=>none
def c7w:Sp:=fun | [.r N l]=>some ([L9 l],.sl (b3p (bif d9 N l then N else 0)) (.ps (bif d9 N l then b9 N (wF (e9 l) N.toNat) else []))) | _=>none
def c7r:Sp:=fun | [.r N l]=>some ([L9 l],.pl (.b (d9 N l && a28 N.toNat (wF (e9 l) N.toNat)))) | _=>none
def kClo (nm:List (Option AV)):Nat × (List MBlk→List SV→Option AR):=(110,a1g EL nm [.r] c7w)
def kAcy (nm:List (Option AV)):Nat × (List MBlk→List SV→Option AR):=(63,a1g EL nm [.r] c7r)
theorem d5p (N:Int) (l:List Pq):(n9 (tab [b6n [],c3n []] [(0,.of (c0p N.toNat (wF (e9 l) N.toNat) 12))]) Tryz.f63 [rlV N 0 l] [arP l] (l8 (.b (d9 N l && a28 N.toNat (wF (e9 l) N.toNat)))))=(
 let a:=((0:Int),(0:Int))
 let c:=wF (e9 l) N.toNat
 let d:=N=N∧l.length=l.length
 let e:=d9 N l && a28 N.toNat c
 let f:=PLoop.of (c0p N.toNat c (12:Nat))
 l.length=l.length∧(mkN (fun(j:Nat)=>((b8 a l j).fst,(b8 a l j).snd)) l.length).length≤(1099511627776:Nat)∧((!d9 N (mkN (fun(j:Nat)=>((b8 a l j).fst,(b8 a l j).snd)) l.length))=true→false=e)∧((!d9 N (mkN (fun(j:Nat)=>((b8 a l j).fst,(b8 a l j).snd)) l.length))=false→l.length=l.length∧d9 N (mkN (fun(j:Nat)=>((b8 a l j).fst,(b8 a l j).snd)) l.length)=true∧(mkN (fun(j:Nat)=>((b8 a l j).fst,(b8 a l j).snd)) l.length).length≤(1099511627776:Nat)∧∃(x:PUnit),(∃(x:Nat),(x≤N.toNat∧a28 x c=true)∧((0:Int)=(↑x:Int)∧True)∧True)∧∀(x_1:Nat),x_1≤N.toNat∧a28 x_1 c=true→(decide ((↑x_1:Int) < N)=true→(wF (e9 (mkN (fun(j:Nat)=>((b8 a l j).fst,(b8 a l j).snd)) l.length)) N.toNat (↑x_1:Int) (↑x_1:Int)=true→false=e)∧(wF (e9 (mkN (fun(j:Nat)=>((b8 a l j).fst,(b8 a l j).snd)) l.length)) N.toNat (↑x_1:Int) (↑x_1:Int)=false→∃(x_2:Nat),(x_2≤N.toNat∧a28 x_2 c=true)∧(f.ann x).mu x_2 < (f.ann x).mu x_1∧(d∧True∧True∧d∧d9 N (mkN (fun(j:Nat)=>((b8 a l j).fst,(b8 a l j).snd)) l.length)=d9 N (mkN (fun(j:Nat)=>((b8 a l j).fst,(b8 a l j).snd)) l.length)∧false=false∧d∧True∧True∧N=N∧IntKind.i64.wrap ((↑x_1:Int) + (1:Int))=(↑x_2:Int)∧True)∧(l.length=l.length∧(∀(j:Nat),j < l.length→(b8 a l j).fst=(b8 a l j).fst)∧(∀(j:Nat),j < l.length→(b8 a l j).snd=(b8 a l j).snd)∧True)∧d∧(∀(x y:Int),wF (e9 (mkN (fun(j:Nat)=>((b8 a l j).fst,(b8 a l j).snd)) l.length)) N.toNat x y=wF (e9 (mkN (fun(j:Nat)=>((b8 a l j).fst,(b8 a l j).snd)) l.length)) N.toNat x y)∧True))∧(decide ((↑x_1:Int) < N)=false→true=e))):=by kernel_rfl
theorem v63 (N:Int) (l:List Pq) (hl:L9 l):n9 (tab [b6n [],c3n []] [(0,.of (c0p N.toNat (wF (e9 l) N.toNat) 12))]) Tryz.f63 [rlV N 0 l] [arP l] (l8 (.b (d9 N l && a28 N.toNat (wF (e9 l) N.toNat)))):=by
 rw[d5p]
 simp only[eq_self,true_and,and_true,z0p,imp_self,m5,n5,g8,i9,PLoop.of,s5,AV.len,b48,lWm,lWa,lWb,c0p]
 refine⟨hl,fun h=>?_,fun h=>?_⟩
 ·have hv:d9 N l=false:=by simpa using h
  rw[hv]; rfl
 ·have hv:d9 N l=true:=by simpa using h
  obtain⟨h1,h2,h3⟩:=y7.1 hv
  rw[hv]
  refine⟨rfl,hl,(),⟨0,by simp[a28],rfl⟩,fun i hi=>⟨fun hlt=>?_,fun hlt=>?_⟩⟩
  ·have hlt2:=z0e hlt
   refine⟨fun hc=>?_,fun hc=>?_⟩
   ·have e:a28 N.toNat (wF (e9 l) N.toNat)=false:=by
     rw[a28,List.all_eq_false]
     exact⟨i,z2q.2 (by omega),by rw[hc]; simp⟩
    rw[e]; rfl
   ·exact⟨i + 1,⟨by omega,by rw[a28,List.range_succ,List.all_append]; rw[a28] at hi; rw[hi.2]; simp[hc]⟩,by omega,wrS (n:=64) (by omega) (by omega)⟩
  ·have hlt2:=z0l hlt
   have e:i=N.toNat:=by omega
   have hi3:=hi.2
   rw[e] at hi3
   rw[hi3]; rfl
theorem d17 (N:Int) (l:List Pq):(n9 (tab [b6n [],c3n [],b6m []] []) Tryz.f110 [rlV N 0 l] [arP l] (a6f (b3p (bif d9 N l then N else 0) (o9 (d9 N l) (b9 N (wF (e9 l) N.toNat))).length) 67 (o9 (d9 N l) (b9 N (wF (e9 l) N.toNat))).length (a1n (o9 (d9 N l) (b9 N (wF (e9 l) N.toNat))))))=(
 let a:=((0:Int),(0:Int))
 let b:=o9 (d9 N l) (b9 N (wF (e9 l) N.toNat))
 l.length=l.length∧(mkN (fun(j:Nat)=>((b8 a l j).fst,(b8 a l j).snd)) l.length).length≤(1099511627776:Nat)∧((!d9 N (mkN (fun(j:Nat)=>((b8 a l j).fst,(b8 a l j).snd)) l.length))=true→b.length=(0:Nat)∧((0:Int)=bif d9 N l then N else(0:Int))∧b.length=(0:Nat)∧True)∧((!d9 N (mkN (fun(j:Nat)=>((b8 a l j).fst,(b8 a l j).snd)) l.length))=false→l.length=l.length∧d9 N (mkN (fun(j:Nat)=>((b8 a l j).fst,(b8 a l j).snd)) l.length)=true∧(mkN (fun(j:Nat)=>((b8 a l j).fst,(b8 a l j).snd)) l.length).length≤(1099511627776:Nat)∧((0:Int)≤N∧N≤(64:Int))∧(AV.ps (b9 N (wF (e9 (mkN (fun(j:Nat)=>((b8 a l j).fst,(b8 a l j).snd)) l.length)) N.toNat))).len=b.length∧((∀(j:Nat),j < b.length→(b8 a (b9 N (wF (e9 (mkN (fun(j:Nat)=>((b8 a l j).fst,(b8 a l j).snd)) l.length)) N.toNat)) j).fst=(b8 a b j).fst)∧(∀(j:Nat),j < b.length→(b8 a (b9 N (wF (e9 (mkN (fun(j:Nat)=>((b8 a l j).fst,(b8 a l j).snd)) l.length)) N.toNat)) j).snd=(b8 a b j).snd)∧True)∧(N=bif d9 N l then N else(0:Int))∧(AV.ps (b9 N (wF (e9 (mkN (fun(j:Nat)=>((b8 a l j).fst,(b8 a l j).snd)) l.length)) N.toNat))).len=b.length∧True)):=by kernel_rfl
theorem v110 (N:Int) (l:List Pq) (hl:L9 l):n9 (tab [b6n [],c3n [],b6m []] []) Tryz.f110 [rlV N 0 l] [arP l] (a6f (b3p (bif d9 N l then N else 0) (o9 (d9 N l) (b9 N (wF (e9 l) N.toNat))).length) 67 (o9 (d9 N l) (b9 N (wF (e9 l) N.toNat))).length (a1n (o9 (d9 N l) (b9 N (wF (e9 l) N.toNat))))):=by
 rw[d17]
 simp only[eq_self,true_and,and_true,z0p,imp_self,m5,n5,g8,i9,PLoop.of,s5,AV.len,b48,lWm,lWa,lWb,c0p]
 refine⟨hl,fun h=>?_,fun h=>?_⟩
 ·have hv:d9 N l=false:=by simpa using h
  simp[hv,o9]
 ·have hv:d9 N l=true:=by simpa using h
  obtain⟨h1,h2,h3⟩:=y7.1 hv
  rw[hv]
  simp only[o9,z0f,eq_self,true_and,and_true,z0p,b48]
  exact⟨hl,h1,h2⟩
theorem fo63:o8 Tryz.prog 63:=⟨Tryz.f63,Tryz.func63,by kernel_rfl,by kernel_rfl⟩
theorem d6o:o8 Tryz.prog 110:=⟨Tryz.f110,Tryz.func110,by kernel_rfl,by kernel_rfl⟩
def t63:List AV→Tab
 | [.r N l]=>tab [b6n [],c3n []] [(0,.of (c0p N.toNat (wF (e9 l) N.toNat) 12))]
 | _=>tab [] []
theorem c63:CallOk Tryz.prog [] 63 (a1g EL [] [.r] c7r):=by
 refine okT (fn:=Tryz.f63) Tryz.func63 fo63 t63 (fun av=>?_) (fun av=>?_) (fun av pre rv h=>?_) (fun av pre rv h hp=>?_)
 ·unfold t63; split <;> first | exact a41 (b1j (d3o _) (b1j (n120 _) a5z)) | exact a41 a5z
 ·unfold t63; split <;> exact⟨rfl,rfl⟩
 ·unfold c7r at h; split at h <;> cases h
  exact⟨rfl,fun t a e=>by cases e <;> exact z0k _ _⟩
 ·unfold c7r at h; split at h <;> cases h
  exact v63 _ _ (hp _ (.head _))
theorem n63 (nm:List (Option AV)):CallOk Tryz.prog [] 63 (a1g EL nm [.r] c7r):=a7x c63
def d4m:List AV→Tab
 | [.r N l]=>tab [b6n [],c3n [],b6m []] []
 | _=>tab [] []
theorem c110:CallOk Tryz.prog [] 110 (a1g EL [] [.r] c7w):=by
 refine okT (fn:=Tryz.f110) Tryz.func110 d6o d4m (fun av=>?_) (fun av=>?_) (fun av pre rv h=>?_) (fun av pre rv h hp=>?_)
 ·unfold d4m; split <;> first | exact a41 (b1j (d3o _) (b1j (n120 _) (b1j (d3q _) a5z))) | exact a41 a5z
 ·unfold d4m; split <;> exact⟨rfl,rfl⟩
 ·unfold c7w at h; split at h <;> cases h
  exact⟨rfl,fun t a e=>by cases e <;> exact z0k _ _⟩
 ·unfold c7w at h; split at h <;> cases h
  exact v110 _ _ (hp _ (.head _))
theorem n110 (nm:List (Option AV)):CallOk Tryz.prog [] 110 (a1g EL nm [.r] c7w):=a7x c110
abbrev SpP:=List PV→Option (List Prop × QV)
theorem a0y {G:List (Nat × Nat)} {f:Nat} {F:List MBlk→List SV→Option AR} (h:CallOk Tryz.prog [] f F):CallOk Tryz.prog G f F:=⟨h.fn,fun ρ W m vs xs ar _ h2 h3 h4 h5 h6 h7=>h.ok ρ W m vs xs ar (fun g r hg=>by cases hg) h2 h3 h4 h5 h6 h7⟩
def plB (b:Bool):QV:=.rv (.pl (.b b))
def plI (n:Int):QV:=.rv (.pl (.i .i64 n))
def sI1 (f:Int→Bool):SpP:=fun | [.lf (.i n)]=>some ([],plB (f n)) | _=>none
def sI2 (f:Int→Int→Bool):SpP:=fun | [.lf (.i n),.lf (.i m)]=>some ([],plB (f n m)) | _=>none
def sE1 (f:Ev→Bool):SpP:=fun | [.lf (.ev e)]=>some ([],plB (f e)) | _=>none
def c7z (f:Ev→Int):SpP:=fun | [.lf (.ev e)]=>some ([],plI (f e)) | _=>none
def sE2 (f:Ev→Ev→Bool):SpP:=fun | [.lf (.ev e),.lf (.ev d)]=>some ([],plB (f e d)) | _=>none
def kI1 (n:Nat) (f:Int→Bool):Nat × (List MBlk→List SV→Option AR):=(n,n8 EL none [] [.lf .i] (sI1 f))
def kI2 (n:Nat) (f:Int→Int→Bool):Nat × (List MBlk→List SV→Option AR):=(n,n8 EL none [] [.lf .i,.lf .i] (sI2 f))
def kE1 (n:Nat) (f:Ev→Bool):Nat × (List MBlk→List SV→Option AR):=(n,n8 EL none [] [.lf .ev] (sE1 f))
def kE1I (n:Nat) (f:Ev→Int):Nat × (List MBlk→List SV→Option AR):=(n,n8 EL none [] [.lf .ev] (c7z f))
def kE2 (n:Nat) (f:Ev→Ev→Bool):Nat × (List MBlk→List SV→Option AR):=(n,n8 EL none [] [.lf .ev,.lf .ev] (sE2 f))
def a2i (n:Int):Bool:=decide (n < 0)
theorem d70:o8 Tryz.prog 125:=⟨Tryz.f125,Tryz.func125,by kernel_rfl,by kernel_rfl⟩
theorem d7g:o8 Tryz.prog 152:=⟨Tryz.f152,Tryz.func152,by kernel_rfl,by kernel_rfl⟩
theorem d75:o8 Tryz.prog 130:=⟨Tryz.f130,Tryz.func130,by kernel_rfl,by kernel_rfl⟩
theorem d74:o8 Tryz.prog 129:=⟨Tryz.f129,Tryz.func129,by kernel_rfl,by kernel_rfl⟩
theorem d7h:o8 Tryz.prog 153:=⟨Tryz.f153,Tryz.func153,by kernel_rfl,by kernel_rfl⟩
theorem d76:o8 Tryz.prog 131:=⟨Tryz.f131,Tryz.func131,by kernel_rfl,by kernel_rfl⟩
theorem d77:o8 Tryz.prog 132:=⟨Tryz.f132,Tryz.func132,by kernel_rfl,by kernel_rfl⟩
theorem d71:o8 Tryz.prog 126:=⟨Tryz.f126,Tryz.func126,by kernel_rfl,by kernel_rfl⟩
theorem d72:o8 Tryz.prog 127:=⟨Tryz.f127,Tryz.func127,by kernel_rfl,by kernel_rfl⟩
theorem d73:o8 Tryz.prog 128:=⟨Tryz.f128,Tryz.func128,by kernel_rfl,by kernel_rfl⟩
theorem fo85:o8 Tryz.prog 85:=⟨Tryz.f85,Tryz.func85,by kernel_rfl,by kernel_rfl⟩
theorem d6y:o8 Tryz.prog 123:=⟨Tryz.f123,Tryz.func123,by kernel_rfl,by kernel_rfl⟩
def d2q (n:Int):Prop:=n9 (({}:Kit)).tab Tryz.f125 [.i .i64 n] [] (l8 (.b (a2i n)))
theorem d1h (n:Int):d2q n=(decide (n < (0:Int))=a2i n):=by kernel_rfl
theorem v125 (n:Int) :d2q n:=by
 rw[d1h]
 rfl
def d31 (n:Int):Prop:=n9 (({}:Kit)).tab Tryz.f152 [.i .i64 n] [] (l8 (.b (a2i n)))
theorem d1w (n:Int):d31 n=(decide (n < (0:Int))=a2i n):=by kernel_rfl
theorem v152 (n:Int) :d31 n:=by
 rw[d1w]
 rfl
def d2v (n:Int):Prop:=n9 (({}:Kit)).tab Tryz.f130 [.i .i64 n] [] (l8 (.b (a14 n)))
theorem d1m (n:Int):d2v n=((decide (n ≥ (-2147483648:Int)) && decide (n≤(2147483647:Int)))=a14 n):=by kernel_rfl
theorem v130 (n:Int) :d2v n:=by
 rw[d1m]
 rfl
def d2u (n:Int):Prop:=n9 (({}:Kit)).tab Tryz.f129 [.i .i64 n] [] (l8 (.b (a44 n)))
theorem d1l (n:Int):d2u n=((n == (1:Int) || n == (2:Int) || n == (3:Int) || n == (5:Int) || n == (6:Int) || n == (8:Int))=a44 n):=by kernel_rfl
theorem v129 (n:Int) :d2u n:=by
 rw[d1l]
 rfl
def d32 (n:Int):Prop:=n9 (({}:Kit)).tab Tryz.f153 [.i .i64 n] [] (l8 (.b (a0a n)))
theorem d1x (n:Int):d32 n=((n == (1:Int) || n == (8:Int) || n == (5:Int) || n == (6:Int))=a0a n):=by kernel_rfl
theorem v153 (n:Int) :d32 n:=by
 rw[d1x]
 rfl
def d2w (n:Int):Prop:=n9 (({}:Kit)).tab Tryz.f131 [.i .i64 n] [] (l8 (.b (a08 n)))
theorem d1n (n:Int):d2w n=((n == (2:Int) || n == (3:Int) || n == (4:Int) || n == (5:Int))=a08 n):=by kernel_rfl
theorem v131 (n:Int) :d2w n:=by
 rw[d1n]
 rfl
def d2x (n m:Int):Prop:=n9 (({}:Kit)).tab Tryz.f132 [.i .i64 n,.i .i64 m] [] (l8 (.b (t6 n m)))
theorem d1o (n m:Int):d2x n m=((decide (n ≥ (0:Int)) && decide (n < m))=t6 n m):=by kernel_rfl
theorem v132 (n m:Int) :d2x n m:=by
 rw[d1o]
 rfl
def d2r (e:Ev):Prop:=n9 (({ calls:=[kI2 132 t6] }:Kit)).tab Tryz.f126 [a6k e] [] (l8 (.b (a17 e)))
theorem d1i (e:Ev):d2r e=(
 let a:=(4:Int)
 ((e.k ==(7:Int))=true→(e.ob ==(0:Int))=a17 e)∧((e.k ==(7:Int))=false→((e.k ==(9:Int))=true→t6 e.ob a=a17 e)∧((e.k ==(9:Int))=false→((e.k ==(10:Int))=true→t6 e.ob a=a17 e)∧((e.k ==(10:Int))=false→((e.k ==(11:Int))=true→t6 e.ob a=a17 e)∧((e.k ==(11:Int))=false→((e.k ==(12:Int))=true→t6 e.ob a=a17 e)∧((e.k ==(12:Int))=false→((e.k ==(13:Int))=true→t6 e.ob a=a17 e)∧((e.k ==(13:Int))=false→((e.k ==(14:Int))=true→t6 e.ob a=a17 e)∧((e.k ==(14:Int))=false→((e.k ==(15:Int))=true→t6 e.ob a=a17 e)∧((e.k ==(15:Int))=false→((e.k ==(16:Int))=true→decide (e.ob ≥ (0:Int))=a17 e)∧((e.k ==(16:Int))=false→((e.k ==(17:Int))=true→decide (e.ob ≥ (0:Int))=a17 e)∧((e.k ==(17:Int))=false→t6 e.ob (8:Int)=a17 e))))))))))):=by kernel_rfl
theorem v126 (e:Ev) :d2r e:=by
 rw[d1i]
 simp only[a17]; grind
def d2s (e:Ev):Prop:=n9 (({ calls:=[kI2 132 t6,kI1 130 a14,kI1 153 a0a] }:Kit)).tab Tryz.f127 [a6k e] [] (l8 (.b (a39 e)))
theorem d1j (e:Ev):d2s e=(((e.k == (11:Int))=true→t6 e.rd (2:Int)=a39 e)∧((e.k == (11:Int))=false→((e.k == (14:Int))=true→t6 e.rd (2:Int)=a39 e)∧((e.k == (14:Int))=false→((e.k == (15:Int))=true→decide (e.rd ≥ (0:Int))=a39 e)∧((e.k == (15:Int))=false→(a14 e.rd && (a0a e.k || e.rd == (0:Int)))=a39 e)))):=by kernel_rfl
theorem v127 (e:Ev) :d2s e:=by
 rw[d1j]
 simp only[a39]; grind
def d2t (e:Ev):Prop:=n9 (({}:Kit)).tab Tryz.f128 [a6k e] [] (l8 (.b (a31 e)))
theorem d1k (e:Ev):d2t e=(((e.k == (1:Int))=true→decide (e.en ≥ (-1:Int))=a31 e)∧((e.k == (1:Int))=false→((e.k == (8:Int))=true→decide (e.en ≥ (-1:Int))=a31 e)∧((e.k == (8:Int))=false→((e.k == (3:Int))=true→decide (e.en ≥ (0:Int))=a31 e)∧((e.k == (3:Int))=false→((e.k == (4:Int))=true→decide (e.en ≥ (0:Int))=a31 e)∧((e.k == (4:Int))=false→(e.en == (-1:Int))=a31 e))))):=by kernel_rfl
theorem v128 (e:Ev) :d2t e:=by
 rw[d1k]
 simp only[a31]; grind
def q85D (e:Ev):Prop:=n9 (({ calls:=[kI2 132 t6,kI1 130 a14,kI1 153 a0a,kI1 125 a2i,kI1 129 a44,kI1 131 a08,kE1 126 a17,kE1 127 a39,kE1 128 a31] }:Kit)).tab Tryz.f85 [a6k e] [] (l8 (.b (n7 e)))
theorem d62 (e:Ev):q85D e=(
 let a:=decide (e.k < (1:Int)) || decide (e.k > (17:Int)) || !a2i e.ag ==(e.k ==(4:Int)) || decide (e.ix < (0:Int)) || !a17 e || !a39 e || !a31 e
 let b:=decide (e.od < (0:Int)) || decide (e.od > (2:Int)) || !a44 e.k && e.od !=(0:Int) || !a14 e.wr || !a08 e.k && e.wr !=(0:Int)
 (a=true→false=n7 e)∧(a=false→(b=true→false=n7 e)∧(b=false→((e.k ==(12:Int))=true→t6 e.mu (4:Int)=n7 e)∧((e.k ==(12:Int))=false→(e.mu ==(-1:Int))=n7 e)))):=by kernel_rfl
theorem v85 (e:Ev) :q85D e:=by
 rw[d62]
 simp only[z0p,true_and,and_true,if_true,a2i]
 obtain⟨ag,ix,k,ob,mu,en,od,rd,wr⟩:=e
 simp only[n7] <;> grind
theorem n125 (nm:List (Option AV)):CallOk Tryz.prog [] 125 (n8 EL none nm [.lf .i] (sI1 a2i)):=y5 Tryz.func125 d70 fun av pre rv h=>by
 unfold sI1 at h; split at h <;> cases h
 exact⟨⟨rfl,fun t a e=>by cases e <;> exact z0k _ _⟩,fun hp=>⟨_,v125 _ ,rfl,v4,v5⟩⟩
theorem n152 (nm:List (Option AV)):CallOk Tryz.prog [] 152 (n8 EL none nm [.lf .i] (sI1 a2i)):=y5 Tryz.func152 d7g fun av pre rv h=>by
 unfold sI1 at h; split at h <;> cases h
 exact⟨⟨rfl,fun t a e=>by cases e <;> exact z0k _ _⟩,fun hp=>⟨_,v152 _ ,rfl,v4,v5⟩⟩
theorem n130 (nm:List (Option AV)):CallOk Tryz.prog [] 130 (n8 EL none nm [.lf .i] (sI1 a14)):=y5 Tryz.func130 d75 fun av pre rv h=>by
 unfold sI1 at h; split at h <;> cases h
 exact⟨⟨rfl,fun t a e=>by cases e <;> exact z0k _ _⟩,fun hp=>⟨_,v130 _ ,rfl,v4,v5⟩⟩
theorem n129 (nm:List (Option AV)):CallOk Tryz.prog [] 129 (n8 EL none nm [.lf .i] (sI1 a44)):=y5 Tryz.func129 d74 fun av pre rv h=>by
 unfold sI1 at h; split at h <;> cases h
 exact⟨⟨rfl,fun t a e=>by cases e <;> exact z0k _ _⟩,fun hp=>⟨_,v129 _ ,rfl,v4,v5⟩⟩
theorem n153 (nm:List (Option AV)):CallOk Tryz.prog [] 153 (n8 EL none nm [.lf .i] (sI1 a0a)):=y5 Tryz.func153 d7h fun av pre rv h=>by
 unfold sI1 at h; split at h <;> cases h
 exact⟨⟨rfl,fun t a e=>by cases e <;> exact z0k _ _⟩,fun hp=>⟨_,v153 _ ,rfl,v4,v5⟩⟩
theorem n131 (nm:List (Option AV)):CallOk Tryz.prog [] 131 (n8 EL none nm [.lf .i] (sI1 a08)):=y5 Tryz.func131 d76 fun av pre rv h=>by
 unfold sI1 at h; split at h <;> cases h
 exact⟨⟨rfl,fun t a e=>by cases e <;> exact z0k _ _⟩,fun hp=>⟨_,v131 _ ,rfl,v4,v5⟩⟩
theorem d3p (nm:List (Option AV)):CallOk Tryz.prog [] 132 (n8 EL none nm [.lf .i,.lf .i] (sI2 t6)):=y5 Tryz.func132 d77 fun av pre rv h=>by
 unfold sI2 at h; split at h <;> cases h
 exact⟨⟨rfl,fun t a e=>by cases e <;> exact z0k _ _⟩,fun hp=>⟨_,v132 _ _ ,rfl,v4,v5⟩⟩
theorem n126 (nm:List (Option AV)):CallOk Tryz.prog [] 126 (n8 EL none nm [.lf .ev] (sE1 a17)):=y5 Tryz.func126 d71 fun av pre rv h=>by
 unfold sE1 at h; split at h <;> cases h
 exact⟨⟨rfl,fun t a e=>by cases e <;> exact z0k _ _⟩,fun hp=>⟨_,v126 _ ,rfl,(m9 (d3p _) v4),v5⟩⟩
theorem n127 (nm:List (Option AV)):CallOk Tryz.prog [] 127 (n8 EL none nm [.lf .ev] (sE1 a39)):=y5 Tryz.func127 d72 fun av pre rv h=>by
 unfold sE1 at h; split at h <;> cases h
 exact⟨⟨rfl,fun t a e=>by cases e <;> exact z0k _ _⟩,fun hp=>⟨_,v127 _ ,rfl,(m9 (d3p _) (m9 (n130 _) (m9 (n153 _) v4))),v5⟩⟩
theorem n128 (nm:List (Option AV)):CallOk Tryz.prog [] 128 (n8 EL none nm [.lf .ev] (sE1 a31)):=y5 Tryz.func128 d73 fun av pre rv h=>by
 unfold sE1 at h; split at h <;> cases h
 exact⟨⟨rfl,fun t a e=>by cases e <;> exact z0k _ _⟩,fun hp=>⟨_,v128 _ ,rfl,v4,v5⟩⟩
theorem n85 (nm:List (Option AV)):CallOk Tryz.prog [] 85 (n8 EL none nm [.lf .ev] (sE1 n7)):=y5 Tryz.func85 fo85 fun av pre rv h=>by
 unfold sE1 at h; split at h <;> cases h
 exact⟨⟨rfl,fun t a e=>by cases e <;> exact z0k _ _⟩,fun hp=>⟨_,v85 _ ,rfl,(m9 (d3p _) (m9 (n130 _) (m9 (n153 _) (m9 (n125 _) (m9 (n129 _) (m9 (n131 _) (m9 (n126 _) (m9 (n127 _) (m9 (n128 _) v4))))))))),v5⟩⟩
theorem r1:e8 a07 ((0:Int).toNat)=7∧o7 a1p ((0:Int).toNat)=true∧e8 a26 ((0:Int).toNat) = -2147483648∧e8 a06 ((0:Int).toNat)=2147483647∧o7 x4 ((0:Int).toNat)=false∧e8 x0 ((0:Int).toNat) = -1∧e8 a2v ((0:Int).toNat)=1∧o7 a03 ((0:Int).toNat)=false∧IntKind.i64.wrap (1 - 1)=0:=⟨rfl,rfl,rfl,rfl,rfl,rfl,rfl,rfl,rfl⟩
theorem r2:e8 a07 ((1:Int).toNat)=7∧o7 a1p ((1:Int).toNat)=true∧e8 a26 ((1:Int).toNat)=0∧e8 a06 ((1:Int).toNat)=0∧o7 x4 ((1:Int).toNat)=true∧e8 x0 ((1:Int).toNat) = -2∧e8 a2v ((1:Int).toNat)=1∧o7 a03 ((1:Int).toNat)=true∧IntKind.i64.wrap (2 - 1)=1:=⟨rfl,rfl,rfl,rfl,rfl,rfl,rfl,rfl,rfl⟩
theorem r3:e8 a07 ((2:Int).toNat)=7∧o7 a1p ((2:Int).toNat)=true∧e8 a26 ((2:Int).toNat)=0∧e8 a06 ((2:Int).toNat)=0∧o7 x4 ((2:Int).toNat)=true∧e8 x0 ((2:Int).toNat)=0∧e8 a2v ((2:Int).toNat)=4∧o7 a03 ((2:Int).toNat)=true∧IntKind.i64.wrap (3 - 1)=2:=⟨rfl,rfl,rfl,rfl,rfl,rfl,rfl,rfl,rfl⟩
theorem r4:e8 a07 ((3:Int).toNat)=7∧o7 a1p ((3:Int).toNat)=false∧e8 a26 ((3:Int).toNat)=0∧e8 a06 ((3:Int).toNat)=0∧o7 x4 ((3:Int).toNat)=true∧e8 x0 ((3:Int).toNat)=0∧e8 a2v ((3:Int).toNat)=1∧o7 a03 ((3:Int).toNat)=true∧IntKind.i64.wrap (4 - 1)=3:=⟨rfl,rfl,rfl,rfl,rfl,rfl,rfl,rfl,rfl⟩
theorem r5:e8 a07 ((4:Int).toNat)=7∧o7 a1p ((4:Int).toNat)=true∧e8 a26 ((4:Int).toNat) = -2147483648∧e8 a06 ((4:Int).toNat)=2147483647∧o7 x4 ((4:Int).toNat)=true∧e8 x0 ((4:Int).toNat) = -2∧e8 a2v ((4:Int).toNat)=1∧o7 a03 ((4:Int).toNat)=true∧IntKind.i64.wrap (5 - 1)=4:=⟨rfl,rfl,rfl,rfl,rfl,rfl,rfl,rfl,rfl⟩
theorem r6:e8 a07 ((5:Int).toNat)=7∧o7 a1p ((5:Int).toNat)=true∧e8 a26 ((5:Int).toNat) = -2147483648∧e8 a06 ((5:Int).toNat)=2147483647∧o7 x4 ((5:Int).toNat)=false∧e8 x0 ((5:Int).toNat) = -2∧e8 a2v ((5:Int).toNat)=1∧o7 a03 ((5:Int).toNat)=false∧IntKind.i64.wrap (6 - 1)=5:=⟨rfl,rfl,rfl,rfl,rfl,rfl,rfl,rfl,rfl⟩
theorem r7:e8 a07 ((6:Int).toNat)=0∧o7 a1p ((6:Int).toNat)=false∧e8 a26 ((6:Int).toNat)=0∧e8 a06 ((6:Int).toNat)=0∧o7 x4 ((6:Int).toNat)=false∧e8 x0 ((6:Int).toNat) = -2∧e8 a2v ((6:Int).toNat)=0∧o7 a03 ((6:Int).toNat)=false∧IntKind.i64.wrap (7 - 1)=6:=⟨rfl,rfl,rfl,rfl,rfl,rfl,rfl,rfl,rfl⟩
theorem r8:e8 a07 ((7:Int).toNat)=7∧o7 a1p ((7:Int).toNat)=true∧e8 a26 ((7:Int).toNat) = -2147483648∧e8 a06 ((7:Int).toNat)=2147483647∧o7 x4 ((7:Int).toNat)=false∧e8 x0 ((7:Int).toNat) = -1∧e8 a2v ((7:Int).toNat)=1∧o7 a03 ((7:Int).toNat)=false∧IntKind.i64.wrap (8 - 1)=7:=⟨rfl,rfl,rfl,rfl,rfl,rfl,rfl,rfl,rfl⟩
theorem r9:e8 a07 ((8:Int).toNat)=3∧o7 a1p ((8:Int).toNat)=false∧e8 a26 ((8:Int).toNat)=0∧e8 a06 ((8:Int).toNat)=0∧o7 x4 ((8:Int).toNat)=false∧e8 x0 ((8:Int).toNat) = -2∧e8 a2v ((8:Int).toNat)=2∧o7 a03 ((8:Int).toNat)=true∧IntKind.i64.wrap (9 - 1)=8:=⟨rfl,rfl,rfl,rfl,rfl,rfl,rfl,rfl,rfl⟩
theorem r10:e8 a07 ((9:Int).toNat)=3∧o7 a1p ((9:Int).toNat)=false∧e8 a26 ((9:Int).toNat)=0∧e8 a06 ((9:Int).toNat)=0∧o7 x4 ((9:Int).toNat)=false∧e8 x0 ((9:Int).toNat) = -2∧e8 a2v ((9:Int).toNat)=2∧o7 a03 ((9:Int).toNat)=true∧IntKind.i64.wrap (10 - 1)=9:=⟨rfl,rfl,rfl,rfl,rfl,rfl,rfl,rfl,rfl⟩
theorem r11:e8 a07 ((10:Int).toNat)=3∧o7 a1p ((10:Int).toNat)=false∧e8 a26 ((10:Int).toNat)=0∧e8 a06 ((10:Int).toNat)=1∧o7 x4 ((10:Int).toNat)=false∧e8 x0 ((10:Int).toNat) = -2∧e8 a2v ((10:Int).toNat)=2∧o7 a03 ((10:Int).toNat)=true∧IntKind.i64.wrap (11 - 1)=10:=⟨rfl,rfl,rfl,rfl,rfl,rfl,rfl,rfl,rfl⟩
theorem r12:e8 a07 ((11:Int).toNat)=3∧o7 a1p ((11:Int).toNat)=false∧e8 a26 ((11:Int).toNat)=0∧e8 a06 ((11:Int).toNat)=0∧o7 x4 ((11:Int).toNat)=false∧e8 x0 ((11:Int).toNat) = -2∧e8 a2v ((11:Int).toNat)=3∧o7 a03 ((11:Int).toNat)=true∧IntKind.i64.wrap (12 - 1)=11:=⟨rfl,rfl,rfl,rfl,rfl,rfl,rfl,rfl,rfl⟩
theorem r13:e8 a07 ((12:Int).toNat)=3∧o7 a1p ((12:Int).toNat)=false∧e8 a26 ((12:Int).toNat)=0∧e8 a06 ((12:Int).toNat)=0∧o7 x4 ((12:Int).toNat)=false∧e8 x0 ((12:Int).toNat) = -2∧e8 a2v ((12:Int).toNat)=3∧o7 a03 ((12:Int).toNat)=true∧IntKind.i64.wrap (13 - 1)=12:=⟨rfl,rfl,rfl,rfl,rfl,rfl,rfl,rfl,rfl⟩
theorem r14:e8 a07 ((13:Int).toNat)=3∧o7 a1p ((13:Int).toNat)=false∧e8 a26 ((13:Int).toNat)=0∧e8 a06 ((13:Int).toNat)=1∧o7 x4 ((13:Int).toNat)=false∧e8 x0 ((13:Int).toNat) = -2∧e8 a2v ((13:Int).toNat)=3∧o7 a03 ((13:Int).toNat)=true∧IntKind.i64.wrap (14 - 1)=13:=⟨rfl,rfl,rfl,rfl,rfl,rfl,rfl,rfl,rfl⟩
theorem r15:e8 a07 ((14:Int).toNat)=3∧o7 a1p ((14:Int).toNat)=false∧e8 a26 ((14:Int).toNat)=0∧e8 a06 ((14:Int).toNat) = -1∧o7 x4 ((14:Int).toNat)=false∧e8 x0 ((14:Int).toNat) = -2∧e8 a2v ((14:Int).toNat)=3∧o7 a03 ((14:Int).toNat)=true∧IntKind.i64.wrap (15 - 1)=14:=⟨rfl,rfl,rfl,rfl,rfl,rfl,rfl,rfl,rfl⟩
theorem r16:e8 a07 ((15:Int).toNat) = -1∧o7 a1p ((15:Int).toNat)=false∧e8 a26 ((15:Int).toNat)=0∧e8 a06 ((15:Int).toNat)=0∧o7 x4 ((15:Int).toNat)=false∧e8 x0 ((15:Int).toNat) = -2∧e8 a2v ((15:Int).toNat)=0∧o7 a03 ((15:Int).toNat)=false∧IntKind.i64.wrap (16 - 1)=15:=⟨rfl,rfl,rfl,rfl,rfl,rfl,rfl,rfl,rfl⟩
theorem r17:e8 a07 ((16:Int).toNat) = -1∧o7 a1p ((16:Int).toNat)=false∧e8 a26 ((16:Int).toNat)=0∧e8 a06 ((16:Int).toNat)=0∧o7 x4 ((16:Int).toNat)=false∧e8 x0 ((16:Int).toNat) = -2∧e8 a2v ((16:Int).toNat)=0∧o7 a03 ((16:Int).toNat)=false∧IntKind.i64.wrap (17 - 1)=16:=⟨rfl,rfl,rfl,rfl,rfl,rfl,rfl,rfl,rfl⟩
theorem c2b {k:Int} (h1:1≤k) (h2:k≤17):k=1∨k=2∨k=3∨k=4∨k=5∨k=6∨k=7∨k=8∨k=9∨k=10∨k=11∨k=12∨k=13∨k=14∨k=15∨k=16∨k=17:=by omega
def d2o (e:Ev):Prop:=n9 (({ g:=true,calls:=[kI1 152 a2i] }:Kit)).tab Tryz.f123 [a6k e] [tbl] (l8 (.b (n7 e)))
theorem d1f (e:Ev):d2o e=(
 let a:=IntKind.i64.wrap (e.k - (1:Int))
 let b:=decide (e.ob < (0:Int)) || e8 a07 a.toNat !=(-1:Int) && decide (e.ob > e8 a07 a.toNat) || decide (e.rd < e8 a26 a.toNat) || e8 a06 a.toNat !=(-1:Int) && decide (e.rd > e8 a06 a.toNat)
 let c:=o7 x4 a.toNat && (decide (e.wr < (-2147483648:Int)) || decide (e.wr > (2147483647:Int))) || !o7 x4 a.toNat && e.wr !=(0:Int)
 let d:=decide (e.k < (1:Int)) || decide (e.k > (17:Int)) || decide (e.ix < (0:Int)) || !a2i e.ag ==(e.k ==(4:Int))
 let f:=o7 a1p a.toNat && (decide (e.od < (0:Int)) || decide (e.od > (2:Int))) || !o7 a1p a.toNat && e.od !=(0:Int)
 let g:=e8 x0 a.toNat ==(-2:Int) && e.en !=(-1:Int) || decide (e.en < e8 x0 a.toNat)
 (d=true→false=n7 e)∧(d=false→((0:Int)≤IntKind.i64.wrap (e.k - (1:Int))∧IntKind.i64.wrap (e.k - (1:Int)) < (↑(17:Nat):Int))∧a.toNat < (17:Nat)∧(b=true→false=n7 e)∧(b=false→(f=true→false=n7 e)∧(f=false→(c=true→false=n7 e)∧(c=false→(g=true→false=n7 e)∧(g=false→((e.k ==(12:Int))=true→(decide (e.mu ≥ (0:Int)) && decide (e.mu < (4:Int)))=n7 e)∧((e.k ==(12:Int))=false→(e.mu ==(-1:Int))=n7 e))))))):=by kernel_rfl
theorem v123 (e:Ev) :d2o e:=by
 rw[d1f]
 simp only[j5,a2i]
 obtain⟨ag,ix,k,ob,mu,en,od,rd,wr⟩:=e
 dsimp only
 refine⟨fun h=>?_,fun h=>?_⟩
 ·simp only[n7]
  grind
 ·have hk:1≤k∧k≤17:=by grind
  rcases c2b hk.1 hk.2 with rfl | rfl | rfl | rfl | rfl | rfl | rfl | rfl | rfl | rfl | rfl | rfl | rfl | rfl | rfl | rfl | rfl
  ·obtain⟨a1,a2,a3,a4,a5,a6,a7,a8,a9⟩:=r1
   simp only[a9,a1,a2,a3,a4,a5,a6,n7,a2i,a17,a39,a31,t6,a14,a44,a0a,a08] at h ⊢
   refine⟨by decide,by decide,?_⟩
   grind
  ·obtain⟨a1,a2,a3,a4,a5,a6,a7,a8,a9⟩:=r2
   simp only[a9,a1,a2,a3,a4,a5,a6,n7,a2i,a17,a39,a31,t6,a14,a44,a0a,a08] at h ⊢
   refine⟨by decide,by decide,?_⟩
   grind
  ·obtain⟨a1,a2,a3,a4,a5,a6,a7,a8,a9⟩:=r3
   simp only[a9,a1,a2,a3,a4,a5,a6,n7,a2i,a17,a39,a31,t6,a14,a44,a0a,a08] at h ⊢
   refine⟨by decide,by decide,?_⟩
   grind
  ·obtain⟨a1,a2,a3,a4,a5,a6,a7,a8,a9⟩:=r4
   simp only[a9,a1,a2,a3,a4,a5,a6,n7,a2i,a17,a39,a31,t6,a14,a44,a0a,a08] at h ⊢
   refine⟨by decide,by decide,?_⟩
   grind
  ·obtain⟨a1,a2,a3,a4,a5,a6,a7,a8,a9⟩:=r5
   simp only[a9,a1,a2,a3,a4,a5,a6,n7,a2i,a17,a39,a31,t6,a14,a44,a0a,a08] at h ⊢
   refine⟨by decide,by decide,?_⟩
   grind
  ·obtain⟨a1,a2,a3,a4,a5,a6,a7,a8,a9⟩:=r6
   simp only[a9,a1,a2,a3,a4,a5,a6,n7,a2i,a17,a39,a31,t6,a14,a44,a0a,a08] at h ⊢
   refine⟨by decide,by decide,?_⟩
   grind
  ·obtain⟨a1,a2,a3,a4,a5,a6,a7,a8,a9⟩:=r7
   simp only[a9,a1,a2,a3,a4,a5,a6,n7,a2i,a17,a39,a31,t6,a14,a44,a0a,a08] at h ⊢
   refine⟨by decide,by decide,?_⟩
   grind
  ·obtain⟨a1,a2,a3,a4,a5,a6,a7,a8,a9⟩:=r8
   simp only[a9,a1,a2,a3,a4,a5,a6,n7,a2i,a17,a39,a31,t6,a14,a44,a0a,a08] at h ⊢
   refine⟨by decide,by decide,?_⟩
   grind
  ·obtain⟨a1,a2,a3,a4,a5,a6,a7,a8,a9⟩:=r9
   simp only[a9,a1,a2,a3,a4,a5,a6,n7,a2i,a17,a39,a31,t6,a14,a44,a0a,a08] at h ⊢
   refine⟨by decide,by decide,?_⟩
   grind
  ·obtain⟨a1,a2,a3,a4,a5,a6,a7,a8,a9⟩:=r10
   simp only[a9,a1,a2,a3,a4,a5,a6,n7,a2i,a17,a39,a31,t6,a14,a44,a0a,a08] at h ⊢
   refine⟨by decide,by decide,?_⟩
   grind
  ·obtain⟨a1,a2,a3,a4,a5,a6,a7,a8,a9⟩:=r11
   simp only[a9,a1,a2,a3,a4,a5,a6,n7,a2i,a17,a39,a31,t6,a14,a44,a0a,a08] at h ⊢
   refine⟨by decide,by decide,?_⟩
   grind
  ·obtain⟨a1,a2,a3,a4,a5,a6,a7,a8,a9⟩:=r12
   simp only[a9,a1,a2,a3,a4,a5,a6,n7,a2i,a17,a39,a31,t6,a14,a44,a0a,a08] at h ⊢
   refine⟨by decide,by decide,?_⟩
   grind
  ·obtain⟨a1,a2,a3,a4,a5,a6,a7,a8,a9⟩:=r13
   simp only[a9,a1,a2,a3,a4,a5,a6,n7,a2i,a17,a39,a31,t6,a14,a44,a0a,a08] at h ⊢
   refine⟨by decide,by decide,?_⟩
   grind
  ·obtain⟨a1,a2,a3,a4,a5,a6,a7,a8,a9⟩:=r14
   simp only[a9,a1,a2,a3,a4,a5,a6,n7,a2i,a17,a39,a31,t6,a14,a44,a0a,a08] at h ⊢
   refine⟨by decide,by decide,?_⟩
   grind
  ·obtain⟨a1,a2,a3,a4,a5,a6,a7,a8,a9⟩:=r15
   simp only[a9,a1,a2,a3,a4,a5,a6,n7,a2i,a17,a39,a31,t6,a14,a44,a0a,a08] at h ⊢
   refine⟨by decide,by decide,?_⟩
   grind
  ·obtain⟨a1,a2,a3,a4,a5,a6,a7,a8,a9⟩:=r16
   simp only[a9,a1,a2,a3,a4,a5,a6,n7,a2i,a17,a39,a31,t6,a14,a44,a0a,a08] at h ⊢
   refine⟨by decide,by decide,?_⟩
   grind
  ·obtain⟨a1,a2,a3,a4,a5,a6,a7,a8,a9⟩:=r17
   simp only[a9,a1,a2,a3,a4,a5,a6,n7,a2i,a17,a39,a31,t6,a14,a44,a0a,a08] at h ⊢
   refine⟨by decide,by decide,?_⟩
   grind
def kVE:Nat × (List MBlk→List SV→Option AR):=(123,n8 EL gbT [] [.lf .ev] (sE1 n7))
theorem n123 (nm:List (Option AV)):CallOk Tryz.prog GL 123 (n8 EL gbT nm [.lf .ev] (sE1 n7)):=a4r Tryz.func123 d6y fun av pre rv h=>by
 unfold sE1 at h; split at h <;> cases h
 exact⟨⟨rfl,fun t a e=>by cases e <;> exact z0k _ _⟩,fun hp=>⟨_,v123 _ ,rfl,(m9 (a0y (n152 _)) v4),v5⟩⟩
def rdE (e:Ev):Bool:=a0a e.k
def wrE (e:Ev):Bool:=e.k == 2 || e.k == 5
def a8m (e:Ev):Int:=bif e.k == 9 || e.k == 10 || e.k == 11 then e.ob else bif e.k == 12 then e.mu else -1
def a8b (e:Ev):Int:=bif e.k == 12 || e.k == 13 || e.k == 14 || e.k == 15 then e.ob else -1
def b16 (a b:Ev):Bool:=(decide (a8m a ≥ 0) && a8m a == a8m b) || (decide (a8b a ≥ 0) && a8b a == a8b b)
theorem fo80:o8 Tryz.prog 80:=⟨Tryz.f80,Tryz.func80,by kernel_rfl,by kernel_rfl⟩
theorem fo81:o8 Tryz.prog 81:=⟨Tryz.f81,Tryz.func81,by kernel_rfl,by kernel_rfl⟩
theorem fo86:o8 Tryz.prog 86:=⟨Tryz.f86,Tryz.func86,by kernel_rfl,by kernel_rfl⟩
theorem fo84:o8 Tryz.prog 84:=⟨Tryz.f84,Tryz.func84,by kernel_rfl,by kernel_rfl⟩
theorem d6r:o8 Tryz.prog 113:=⟨Tryz.f113,Tryz.func113,by kernel_rfl,by kernel_rfl⟩
theorem d6s:o8 Tryz.prog 114:=⟨Tryz.f114,Tryz.func114,by kernel_rfl,by kernel_rfl⟩
theorem fo58:o8 Tryz.prog 58:=⟨Tryz.f58,Tryz.func58,by kernel_rfl,by kernel_rfl⟩
def q80D (e:Ev):Prop:=n9 (({}:Kit)).tab Tryz.f80 [a6k e] [] (l8 (.b (rdE e)))
theorem d5x (e:Ev):q80D e=((e.k == (1:Int) || e.k == (8:Int) || e.k == (5:Int) || e.k == (6:Int))=rdE e):=by kernel_rfl
theorem v80 (e:Ev) :q80D e:=by
 rw[d5x]
 first | rfl | (simp only[rdE,a0a]; grind)
def q81D (e:Ev):Prop:=n9 (({}:Kit)).tab Tryz.f81 [a6k e] [] (l8 (.b (wrE e)))
theorem d5y (e:Ev):q81D e=((e.k == (2:Int) || e.k == (5:Int))=wrE e):=by kernel_rfl
theorem v81 (e:Ev) :q81D e:=by
 rw[d5y]
 first | rfl | (simp only[wrE,a0a]; grind)
def q86D (e:Ev):Prop:=n9 (({}:Kit)).tab Tryz.f86 [a6k e] [] (l8 (.b (rdE e)))
theorem d63 (e:Ev):q86D e=((e.k == (1:Int) || e.k == (8:Int) || e.k == (5:Int) || e.k == (6:Int))=rdE e):=by kernel_rfl
theorem v86 (e:Ev) :q86D e:=by
 rw[d63]
 first | rfl | (simp only[rdE,a0a]; grind)
def q84D (e:Ev):Prop:=n9 (({}:Kit)).tab Tryz.f84 [a6k e] [] (l8 (.b (wrE e)))
theorem d61 (e:Ev):q84D e=((e.k == (2:Int) || e.k == (5:Int))=wrE e):=by kernel_rfl
theorem v84 (e:Ev) :q84D e:=by
 rw[d61]
 first | rfl | (simp only[wrE,a0a]; grind)
def d2k (e:Ev):Prop:=n9 (({}:Kit)).tab Tryz.f113 [a6k e] [] (l8 (.i .i64 (a8m e)))
theorem d19 (e:Ev):d2k e=(((e.k == (9:Int))=true→e.ob=a8m e)∧((e.k == (9:Int))=false→((e.k == (10:Int))=true→e.ob=a8m e)∧((e.k == (10:Int))=false→((e.k == (11:Int))=true→e.ob=a8m e)∧((e.k == (11:Int))=false→((e.k == (12:Int))=true→e.mu=a8m e)∧((e.k == (12:Int))=false→(-1:Int)=a8m e))))):=by kernel_rfl
theorem v113 (e:Ev) :d2k e:=by
 rw[d19]
 first | rfl | (simp only[a8m,a0a]; grind)
def d2l (e:Ev):Prop:=n9 (({}:Kit)).tab Tryz.f114 [a6k e] [] (l8 (.i .i64 (a8b e)))
theorem d1a (e:Ev):d2l e=(((e.k == (12:Int))=true→e.ob=a8b e)∧((e.k == (12:Int))=false→((e.k == (13:Int))=true→e.ob=a8b e)∧((e.k == (13:Int))=false→((e.k == (14:Int))=true→e.ob=a8b e)∧((e.k == (14:Int))=false→((e.k == (15:Int))=true→e.ob=a8b e)∧((e.k == (15:Int))=false→(-1:Int)=a8b e))))):=by kernel_rfl
theorem v114 (e:Ev) :d2l e:=by
 rw[d1a]
 first | rfl | (simp only[a8b,a0a]; grind)
def q58D (e d:Ev):Prop:=n9 (({ calls:=[kE1I 113 a8m,kE1I 114 a8b] }:Kit)).tab Tryz.f58 [a6k e,a6k d] [] (l8 (.b (b16 e d)))
theorem d5m (e d:Ev):q58D e d=((decide (a8m e ≥ (0:Int)) && a8m e == a8m d || decide (a8b e ≥ (0:Int)) && a8b e == a8b d)=b16 e d):=by kernel_rfl
theorem v58 (e d:Ev) :q58D e d:=by
 rw[d5m]
 first | rfl | (simp only[b16]; grind)
theorem n80 (nm:List (Option AV)):CallOk Tryz.prog [] 80 (n8 EL none nm [.lf .ev] (sE1 rdE)):=y5 Tryz.func80 fo80 fun av pre rv h=>by
 unfold sE1 at h; split at h <;> cases h
 exact⟨⟨rfl,fun t a e=>by cases e <;> exact z0k _ _⟩,fun hp=>⟨_,v80 _ ,rfl,v4,v5⟩⟩
theorem n81 (nm:List (Option AV)):CallOk Tryz.prog [] 81 (n8 EL none nm [.lf .ev] (sE1 wrE)):=y5 Tryz.func81 fo81 fun av pre rv h=>by
 unfold sE1 at h; split at h <;> cases h
 exact⟨⟨rfl,fun t a e=>by cases e <;> exact z0k _ _⟩,fun hp=>⟨_,v81 _ ,rfl,v4,v5⟩⟩
theorem n86 (nm:List (Option AV)):CallOk Tryz.prog [] 86 (n8 EL none nm [.lf .ev] (sE1 rdE)):=y5 Tryz.func86 fo86 fun av pre rv h=>by
 unfold sE1 at h; split at h <;> cases h
 exact⟨⟨rfl,fun t a e=>by cases e <;> exact z0k _ _⟩,fun hp=>⟨_,v86 _ ,rfl,v4,v5⟩⟩
theorem n84 (nm:List (Option AV)):CallOk Tryz.prog [] 84 (n8 EL none nm [.lf .ev] (sE1 wrE)):=y5 Tryz.func84 fo84 fun av pre rv h=>by
 unfold sE1 at h; split at h <;> cases h
 exact⟨⟨rfl,fun t a e=>by cases e <;> exact z0k _ _⟩,fun hp=>⟨_,v84 _ ,rfl,v4,v5⟩⟩
theorem n113 (nm:List (Option AV)):CallOk Tryz.prog [] 113 (n8 EL none nm [.lf .ev] (c7z a8m)):=y5 Tryz.func113 d6r fun av pre rv h=>by
 unfold c7z at h; split at h <;> cases h
 exact⟨⟨rfl,fun t a e=>by cases e <;> exact z0k _ _⟩,fun hp=>⟨_,v113 _ ,rfl,v4,v5⟩⟩
theorem n114 (nm:List (Option AV)):CallOk Tryz.prog [] 114 (n8 EL none nm [.lf .ev] (c7z a8b)):=y5 Tryz.func114 d6s fun av pre rv h=>by
 unfold c7z at h; split at h <;> cases h
 exact⟨⟨rfl,fun t a e=>by cases e <;> exact z0k _ _⟩,fun hp=>⟨_,v114 _ ,rfl,v4,v5⟩⟩
theorem n58 (nm:List (Option AV)):CallOk Tryz.prog [] 58 (n8 EL none nm [.lf .ev,.lf .ev] (sE2 b16)):=y5 Tryz.func58 fo58 fun av pre rv h=>by
 unfold sE2 at h; split at h <;> cases h
 exact⟨⟨rfl,fun t a e=>by cases e <;> exact z0k _ _⟩,fun hp=>⟨_,v58 _ _ ,rfl,(m9 (n113 _) (m9 (n114 _) v4)),v5⟩⟩
end Go.Proofs.YtaeeaniofljmnaaGreatDoor

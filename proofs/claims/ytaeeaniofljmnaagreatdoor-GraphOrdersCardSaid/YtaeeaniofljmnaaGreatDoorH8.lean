/-
  A part of the proof (H8).
-/
import Derived.Test.YtaeeaniofljmnaaGreatDoorH4
namespace Go.Proofs.YtaeeaniofljmnaaGreatDoor
set_option linter.unusedSimpArgs false
set_option linter.unusedVariables false
open Go Go.Proofs.YtaeeaniofljmnaaGreatDoor.Sx
set_option maxRecDepth 100000
def mixA (f:Pf) (m a:Nat):Pf:=fun x y=>bif decide (x < (a:Int)) then wF f (m + 1) x y else wF f m x y
def mixB (f:Pf) (m a b:Nat):Pf:=fun x y=>bif decide (x < (a:Int)) || (decide (x=(a:Int)) && decide (y < (b:Int))) then wF f (m + 1) x y else wF f m x y
def d56 (e n:Nat) (f:Pf):Nat × MBlk:=(e,.oarr 4 (n * n) (a9z (d0q n f)))
def lWm (n:Nat) (f:Pf) (t e:Nat):LAnn:=p9 n t (fun _=>True) (fun m=>[d56 e n (wF f m)]) []
def lWa (n:Nat) (f:Pf) (t e:Nat):PLoop:=⟨Nat,fun m=>p9 n t (fun _=>m < n) (fun a=>[d56 e n (mixA f m a)]) []⟩
def lWb (n:Nat) (f:Pf) (t e:Nat):PLoop:=⟨Nat × Nat,fun p=>p9 n t (fun _=>p.1 < n∧p.2 < n) (fun b=>[d56 e n (mixB f p.1 p.2 b)]) []⟩
def a2i (n:Nat) (f:Pf):Bool:=(List.range n).all (fun a=>!f a a)
def c0l (n:Nat) (f:Pf) (t:Nat):LAnn:=p9 n t (fun i=>a2i i f=true) (fun _=>[]) []
def sCld:Sp:=fun | [.r N l]=>some ([d8 N l=true,L9 l],.sl (fun k=>.sl 0 k) (.bs (d0q N.toNat (wF (d9 l) N.toNat)))) | _=>none
def c7q:Sp:=fun | [.r N l]=>some ([L9 l],.sl (b3q (bif d8 N l then N else 0)) (.ps (bif d8 N l then b7 N (wF (d9 l) N.toNat) else []))) | _=>none
def c7l:Sp:=fun | [.r N l]=>some ([L9 l],.pl (.b (d8 N l && a2i N.toNat (wF (d9 l) N.toNat)))) | _=>none
def kClo (nm:List (Option AV)):Nat × (List MBlk→List SV→Option AR):=(110,a1p EL nm [.r] c7q)
def kAcy (nm:List (Option AV)):Nat × (List MBlk→List SV→Option AR):=(63,a1p EL nm [.r] c7l)
theorem d62 (N:Int) (l:List Pq):(n7 (tab [b6n [],c3j []] [(0,.of (c0l N.toNat (wF (d9 l) N.toNat) 12))]) Tryz.f63 [rlV N 0 l] [arP l] (l4 (.b (d8 N l && a2i N.toNat (wF (d9 l) N.toNat)))))=(l.length=l.length ∧
 (mkN (fun(j:Nat)=>((b6 ((0:Int),(0:Int)) l j).fst,(b6 ((0:Int),(0:Int)) l j).snd))
 l.length).length ≤
 (1099511627776:Nat) ∧
 ((!d8 N
 (mkN (fun(j:Nat)=>((b6 ((0:Int),(0:Int)) l j).fst,(b6 ((0:Int),(0:Int)) l j).snd))
 l.length)) =
 true →
 false=(d8 N l && a2i N.toNat (wF (d9 l) N.toNat))) ∧
 ((!d8 N
 (mkN (fun(j:Nat)=>((b6 ((0:Int),(0:Int)) l j).fst,(b6 ((0:Int),(0:Int)) l j).snd))
 l.length)) =
 false →
 l.length=l.length ∧
 d8 N
 (mkN (fun(j:Nat)=>((b6 ((0:Int),(0:Int)) l j).fst,(b6 ((0:Int),(0:Int)) l j).snd))
 l.length) =
 true ∧
 (mkN (fun(j:Nat)=>((b6 ((0:Int),(0:Int)) l j).fst,(b6 ((0:Int),(0:Int)) l j).snd))
 l.length).length ≤
 (1099511627776:Nat) ∧
 ∃(x:PUnit),
 (∃(x:Nat),
 (x≤N.toNat∧a2i x (wF (d9 l) N.toNat)=true)∧((0:Int)=(↑x:Int)∧True)∧True) ∧
 ∀(x_1:Nat),
 x_1≤N.toNat∧a2i x_1 (wF (d9 l) N.toNat)=true →
 (decide ((↑x_1:Int) < N)=true →
 (wF
 (d9
 (mkN
 (fun(j:Nat) =>
 ((b6 ((0:Int),(0:Int)) l j).fst,(b6 ((0:Int),(0:Int)) l j).snd))
 l.length))
 N.toNat (↑x_1:Int) (↑x_1:Int) =
 true →
 false=(d8 N l && a2i N.toNat (wF (d9 l) N.toNat))) ∧
 (wF
 (d9
 (mkN
 (fun(j:Nat) =>
 ((b6 ((0:Int),(0:Int)) l j).fst,(b6 ((0:Int),(0:Int)) l j).snd))
 l.length))
 N.toNat (↑x_1:Int) (↑x_1:Int) =
 false →
 ∃(x_2:Nat),
 (x_2≤N.toNat∧a2i x_2 (wF (d9 l) N.toNat)=true) ∧
 ((PLoop.of (c0l N.toNat (wF (d9 l) N.toNat) (12:Nat))).ann x).mu x_2 <
 ((PLoop.of (c0l N.toNat (wF (d9 l) N.toNat) (12:Nat))).ann x).mu x_1 ∧
 ((N=N∧l.length=l.length) ∧
 True ∧
 True ∧
 (N=N∧l.length=l.length) ∧
 d8 N
 (mkN
 (fun(j:Nat) =>
 ((b6 ((0:Int),(0:Int)) l j).fst,
 (b6 ((0:Int),(0:Int)) l j).snd))
 l.length) =
 d8 N
 (mkN
 (fun(j:Nat) =>
 ((b6 ((0:Int),(0:Int)) l j).fst,
 (b6 ((0:Int),(0:Int)) l j).snd))
 l.length) ∧
 false=false ∧
 (N=N∧l.length=l.length) ∧
 True ∧
 True ∧
 N=N ∧
 IntKind.i64.wrap ((↑x_1:Int) + (1:Int))=(↑x_2:Int) ∧
 True) ∧
 (l.length=l.length ∧
 (∀(j:Nat),
 j < l.length →
 (b6 ((0:Int),(0:Int)) l j).fst =
 (b6 ((0:Int),(0:Int)) l j).fst) ∧
 (∀(j:Nat),
 j < l.length →
 (b6 ((0:Int),(0:Int)) l j).snd =
 (b6 ((0:Int),(0:Int)) l j).snd) ∧
 True) ∧
 (N=N∧l.length=l.length) ∧
 (∀(x y:Int),
 wF
 (d9
 (mkN
 (fun(j:Nat) =>
 ((b6 ((0:Int),(0:Int)) l j).fst,
 (b6 ((0:Int),(0:Int)) l j).snd))
 l.length))
 N.toNat x y =
 wF
 (d9
 (mkN
 (fun(j:Nat) =>
 ((b6 ((0:Int),(0:Int)) l j).fst,
 (b6 ((0:Int),(0:Int)) l j).snd))
 l.length))
 N.toNat x y) ∧
 True)) ∧
 (decide ((↑x_1:Int) < N)=false→true=(d8 N l && a2i N.toNat (wF (d9 l) N.toNat))))):=by kernel_rfl
theorem v63 (N:Int) (l:List Pq) (hl:L9 l):n7 (tab [b6n [],c3j []] [(0,.of (c0l N.toNat (wF (d9 l) N.toNat) 12))]) Tryz.f63 [rlV N 0 l] [arP l] (l4 (.b (d8 N l && a2i N.toNat (wF (d9 l) N.toNat)))):=by
 rw[d62]
 simp only[eq_self,true_and,and_true,z0o,imp_self,m5,m6,g7,g9,PLoop.of,p9,AV.len,b48,lWm,lWa,lWb,c0l]
 refine⟨hl,fun h=>?_,fun h=>?_⟩
 ·have hv:d8 N l=false:=by simpa using h
  rw[hv]; rfl
 ·have hv:d8 N l=true:=by simpa using h
  obtain⟨h1,h2,h3⟩:=z5.1 hv
  rw[hv]
  refine⟨rfl,hl,(),⟨0,by simp[a2i],rfl⟩,fun i hi=>⟨fun hlt=>?_,fun hlt=>?_⟩⟩
  ·have hlt2:=z0e hlt
   refine⟨fun hc=>?_,fun hc=>?_⟩
   ·have e:a2i N.toNat (wF (d9 l) N.toNat)=false:=by
     rw[a2i,List.all_eq_false]
     exact⟨i,z2q.2 (by omega),by rw[hc]; simp⟩
    rw[e]; rfl
   ·exact⟨i + 1,⟨by omega,by rw[a2i,List.range_succ,List.all_append]; rw[a2i] at hi; rw[hi.2]; simp[hc]⟩,by omega,wrS (n:=64) (by omega) (by omega)⟩
  ·have hlt2:=z0m hlt
   have e:i=N.toNat:=by omega
   have hi3:=hi.2
   rw[e] at hi3
   rw[hi3]; rfl
theorem d13 (N:Int) (l:List Pq):(n7 (tab [b6n [],c3j [],b6m []] []) Tryz.f110 [rlV N 0 l] [arP l] (a6j (b3q (bif d8 N l then N else 0) (i9 (d8 N l) (b7 N (wF (d9 l) N.toNat))).length) 67 (i9 (d8 N l) (b7 N (wF (d9 l) N.toNat))).length (a1a (i9 (d8 N l) (b7 N (wF (d9 l) N.toNat))))))=(l.length=l.length ∧
 (mkN (fun(j:Nat)=>((b6 ((0:Int),(0:Int)) l j).fst,(b6 ((0:Int),(0:Int)) l j).snd))
 l.length).length ≤
 (1099511627776:Nat) ∧
 ((!d8 N
 (mkN (fun(j:Nat)=>((b6 ((0:Int),(0:Int)) l j).fst,(b6 ((0:Int),(0:Int)) l j).snd))
 l.length)) =
 true →
 (i9 (d8 N l) (b7 N (wF (d9 l) N.toNat))).length=(0:Nat) ∧
 ((0:Int)=bif d8 N l then N else(0:Int)) ∧
 (i9 (d8 N l) (b7 N (wF (d9 l) N.toNat))).length=(0:Nat)∧True) ∧
 ((!d8 N
 (mkN (fun(j:Nat)=>((b6 ((0:Int),(0:Int)) l j).fst,(b6 ((0:Int),(0:Int)) l j).snd))
 l.length)) =
 false →
 l.length=l.length ∧
 d8 N
 (mkN (fun(j:Nat)=>((b6 ((0:Int),(0:Int)) l j).fst,(b6 ((0:Int),(0:Int)) l j).snd))
 l.length) =
 true ∧
 (mkN (fun(j:Nat)=>((b6 ((0:Int),(0:Int)) l j).fst,(b6 ((0:Int),(0:Int)) l j).snd))
 l.length).length ≤
 (1099511627776:Nat) ∧
 ((0:Int)≤N∧N≤(64:Int)) ∧
 (AV.ps
 (b7 N
 (wF
 (d9
 (mkN
 (fun(j:Nat) =>
 ((b6 ((0:Int),(0:Int)) l j).fst,(b6 ((0:Int),(0:Int)) l j).snd))
 l.length))
 N.toNat))).len =
 (i9 (d8 N l) (b7 N (wF (d9 l) N.toNat))).length ∧
 ((∀(j:Nat),
 j < (i9 (d8 N l) (b7 N (wF (d9 l) N.toNat))).length →
 (b6 ((0:Int),(0:Int))
 (b7 N
 (wF
 (d9
 (mkN
 (fun(j:Nat) =>
 ((b6 ((0:Int),(0:Int)) l j).fst,
 (b6 ((0:Int),(0:Int)) l j).snd))
 l.length))
 N.toNat))
 j).fst =
 (b6 ((0:Int),(0:Int)) (i9 (d8 N l) (b7 N (wF (d9 l) N.toNat))) j).fst) ∧
 (∀(j:Nat),
 j < (i9 (d8 N l) (b7 N (wF (d9 l) N.toNat))).length →
 (b6 ((0:Int),(0:Int))
 (b7 N
 (wF
 (d9
 (mkN
 (fun(j:Nat) =>
 ((b6 ((0:Int),(0:Int)) l j).fst,
 (b6 ((0:Int),(0:Int)) l j).snd))
 l.length))
 N.toNat))
 j).snd =
 (b6 ((0:Int),(0:Int)) (i9 (d8 N l) (b7 N (wF (d9 l) N.toNat))) j).snd) ∧
 True) ∧
 (N=bif d8 N l then N else(0:Int)) ∧
 (AV.ps
 (b7 N
 (wF
 (d9
 (mkN
 (fun(j:Nat) =>
 ((b6 ((0:Int),(0:Int)) l j).fst,(b6 ((0:Int),(0:Int)) l j).snd))
 l.length))
 N.toNat))).len =
 (i9 (d8 N l) (b7 N (wF (d9 l) N.toNat))).length ∧
 True)):=by kernel_rfl
theorem v110 (N:Int) (l:List Pq) (hl:L9 l):n7 (tab [b6n [],c3j [],b6m []] []) Tryz.f110 [rlV N 0 l] [arP l] (a6j (b3q (bif d8 N l then N else 0) (i9 (d8 N l) (b7 N (wF (d9 l) N.toNat))).length) 67 (i9 (d8 N l) (b7 N (wF (d9 l) N.toNat))).length (a1a (i9 (d8 N l) (b7 N (wF (d9 l) N.toNat))))):=by
 rw[d13]
 simp only[eq_self,true_and,and_true,z0o,imp_self,m5,m6,g7,g9,PLoop.of,p9,AV.len,b48,lWm,lWa,lWb,c0l]
 refine⟨hl,fun h=>?_,fun h=>?_⟩
 ·have hv:d8 N l=false:=by simpa using h
  simp[hv,i9]
 ·have hv:d8 N l=true:=by simpa using h
  obtain⟨h1,h2,h3⟩:=z5.1 hv
  rw[hv]
  simp only[i9,z0g,eq_self,true_and,and_true,z0o,b48]
  exact⟨hl,h1,h2⟩
theorem fo63:o6 Tryz.prog 63:=⟨Tryz.f63,Tryz.func63,by kernel_rfl,by kernel_rfl⟩
theorem d71:o6 Tryz.prog 110:=⟨Tryz.f110,Tryz.func110,by kernel_rfl,by kernel_rfl⟩
def t63:List AV→Tab
 | [.r N l]=>tab [b6n [],c3j []] [(0,.of (c0l N.toNat (wF (d9 l) N.toNat) 12))]
 | _=>tab [] []
theorem c63:CallOk Tryz.prog [] 63 (a1p EL [] [.r] c7l):=by
 refine okT (fn:=Tryz.f63) Tryz.func63 fo63 t63 (fun av=>?_) (fun av=>?_) (fun av pre rv h=>?_) (fun av pre rv h hp=>?_)
 ·unfold t63; split <;> first | exact a4e (b1o (d3y _) (b1o (n120 _) a65)) | exact a4e a65
 ·unfold t63; split <;> exact⟨rfl,rfl⟩
 ·unfold c7l at h; split at h <;> cases h
  exact⟨rfl,fun t a e=>by cases e <;> exact z0h _ _⟩
 ·unfold c7l at h; split at h <;> cases h
  exact v63 _ _ (hp _ (.head _))
theorem n63 (nm:List (Option AV)):CallOk Tryz.prog [] 63 (a1p EL nm [.r] c7l):=a7x c63
def d4w:List AV→Tab
 | [.r N l]=>tab [b6n [],c3j [],b6m []] []
 | _=>tab [] []
theorem c110:CallOk Tryz.prog [] 110 (a1p EL [] [.r] c7q):=by
 refine okT (fn:=Tryz.f110) Tryz.func110 d71 d4w (fun av=>?_) (fun av=>?_) (fun av pre rv h=>?_) (fun av pre rv h hp=>?_)
 ·unfold d4w; split <;> first | exact a4e (b1o (d3y _) (b1o (n120 _) (b1o (d40 _) a65))) | exact a4e a65
 ·unfold d4w; split <;> exact⟨rfl,rfl⟩
 ·unfold c7q at h; split at h <;> cases h
  exact⟨rfl,fun t a e=>by cases e <;> exact z0h _ _⟩
 ·unfold c7q at h; split at h <;> cases h
  exact v110 _ _ (hp _ (.head _))
theorem n110 (nm:List (Option AV)):CallOk Tryz.prog [] 110 (a1p EL nm [.r] c7q):=a7x c110
abbrev SpP:=List PV→Option (List Prop × QV)
theorem a11 {G:List (Nat × Nat)} {f:Nat} {F:List MBlk→List SV→Option AR} (h:CallOk Tryz.prog [] f F):CallOk Tryz.prog G f F:=⟨h.fn,fun ρ W m vs xs ar _ h2 h3 h4 h5 h6 h7=>h.ok ρ W m vs xs ar (fun g r hg=>by cases hg) h2 h3 h4 h5 h6 h7⟩
def plB (b:Bool):QV:=.rv (.pl (.b b))
def plI (n:Int):QV:=.rv (.pl (.i .i64 n))
def sI1 (f:Int→Bool):SpP:=fun | [.lf (.i n)]=>some ([],plB (f n)) | _=>none
def sI2 (f:Int→Int→Bool):SpP:=fun | [.lf (.i n),.lf (.i m)]=>some ([],plB (f n m)) | _=>none
def sE1 (f:Ev→Bool):SpP:=fun | [.lf (.ev e)]=>some ([],plB (f e)) | _=>none
def b7g (f:Ev→Int):SpP:=fun | [.lf (.ev e)]=>some ([],plI (f e)) | _=>none
def sE2 (f:Ev→Ev→Bool):SpP:=fun | [.lf (.ev e),.lf (.ev d)]=>some ([],plB (f e d)) | _=>none
def kI1 (n:Nat) (f:Int→Bool):Nat × (List MBlk→List SV→Option AR):=(n,n6 EL none [] [.lf .i] (sI1 f))
def kI2 (n:Nat) (f:Int→Int→Bool):Nat × (List MBlk→List SV→Option AR):=(n,n6 EL none [] [.lf .i,.lf .i] (sI2 f))
def kE1 (n:Nat) (f:Ev→Bool):Nat × (List MBlk→List SV→Option AR):=(n,n6 EL none [] [.lf .ev] (sE1 f))
def c99 (n:Nat) (f:Ev→Int):Nat × (List MBlk→List SV→Option AR):=(n,n6 EL none [] [.lf .ev] (b7g f))
def kE2 (n:Nat) (f:Ev→Ev→Bool):Nat × (List MBlk→List SV→Option AR):=(n,n6 EL none [] [.lf .ev,.lf .ev] (sE2 f))
def a2t (n:Int):Bool:=decide (n < 0)
theorem d7d:o6 Tryz.prog 125:=⟨Tryz.f125,Tryz.func125,by kernel_rfl,by kernel_rfl⟩
theorem d7w:o6 Tryz.prog 152:=⟨Tryz.f152,Tryz.func152,by kernel_rfl,by kernel_rfl⟩
theorem d7i:o6 Tryz.prog 130:=⟨Tryz.f130,Tryz.func130,by kernel_rfl,by kernel_rfl⟩
theorem d7h:o6 Tryz.prog 129:=⟨Tryz.f129,Tryz.func129,by kernel_rfl,by kernel_rfl⟩
theorem d7x:o6 Tryz.prog 153:=⟨Tryz.f153,Tryz.func153,by kernel_rfl,by kernel_rfl⟩
theorem d7j:o6 Tryz.prog 131:=⟨Tryz.f131,Tryz.func131,by kernel_rfl,by kernel_rfl⟩
theorem d7k:o6 Tryz.prog 132:=⟨Tryz.f132,Tryz.func132,by kernel_rfl,by kernel_rfl⟩
theorem d7e:o6 Tryz.prog 126:=⟨Tryz.f126,Tryz.func126,by kernel_rfl,by kernel_rfl⟩
theorem d7f:o6 Tryz.prog 127:=⟨Tryz.f127,Tryz.func127,by kernel_rfl,by kernel_rfl⟩
theorem d7g:o6 Tryz.prog 128:=⟨Tryz.f128,Tryz.func128,by kernel_rfl,by kernel_rfl⟩
theorem fo85:o6 Tryz.prog 85:=⟨Tryz.f85,Tryz.func85,by kernel_rfl,by kernel_rfl⟩
theorem d7b:o6 Tryz.prog 123:=⟨Tryz.f123,Tryz.func123,by kernel_rfl,by kernel_rfl⟩
def d2q (n:Int):Prop:=n7 (({}:Kit)).tab Tryz.f125 [.i .i64 n] [] (l4 (.b (a2t n)))
theorem d1d (n:Int):d2q n=(decide (n < (0:Int))=a2t n):=by kernel_rfl
theorem v125 (n:Int) :d2q n:=by
 rw[d1d]
 rfl
def d34 (n:Int):Prop:=n7 (({}:Kit)).tab Tryz.f152 [.i .i64 n] [] (l4 (.b (a2t n)))
theorem d1v (n:Int):d34 n=(decide (n < (0:Int))=a2t n):=by kernel_rfl
theorem v152 (n:Int) :d34 n:=by
 rw[d1v]
 rfl
def d2v (n:Int):Prop:=n7 (({}:Kit)).tab Tryz.f130 [.i .i64 n] [] (l4 (.b (a17 n)))
theorem d1i (n:Int):d2v n=((decide (n ≥ (-2147483648:Int)) && decide (n≤(2147483647:Int)))=a17 n):=by kernel_rfl
theorem v130 (n:Int) :d2v n:=by
 rw[d1i]
 rfl
def d2u (n:Int):Prop:=n7 (({}:Kit)).tab Tryz.f129 [.i .i64 n] [] (l4 (.b (a4h n)))
theorem d1h (n:Int):d2u n=((n == (1:Int) || n == (2:Int) || n == (3:Int) || n == (5:Int) || n == (6:Int) || n == (8:Int))=a4h n):=by kernel_rfl
theorem v129 (n:Int) :d2u n:=by
 rw[d1h]
 rfl
def d35 (n:Int):Prop:=n7 (({}:Kit)).tab Tryz.f153 [.i .i64 n] [] (l4 (.b (a02 n)))
theorem d1w (n:Int):d35 n=((n == (1:Int) || n == (8:Int) || n == (5:Int) || n == (6:Int))=a02 n):=by kernel_rfl
theorem v153 (n:Int) :d35 n:=by
 rw[d1w]
 rfl
def d2w (n:Int):Prop:=n7 (({}:Kit)).tab Tryz.f131 [.i .i64 n] [] (l4 (.b (a0a n)))
theorem d1j (n:Int):d2w n=((n == (2:Int) || n == (3:Int) || n == (4:Int) || n == (5:Int))=a0a n):=by kernel_rfl
theorem v131 (n:Int) :d2w n:=by
 rw[d1j]
 rfl
def d2x (n m:Int):Prop:=n7 (({}:Kit)).tab Tryz.f132 [.i .i64 n,.i .i64 m] [] (l4 (.b (t8 n m)))
theorem d1k (n m:Int):d2x n m=((decide (n ≥ (0:Int)) && decide (n < m))=t8 n m):=by kernel_rfl
theorem v132 (n m:Int) :d2x n m:=by
 rw[d1k]
 rfl
def d2r (e:Ev):Prop:=n7 (({ calls:=[kI2 132 t8] }:Kit)).tab Tryz.f126 [a5m e] [] (l4 (.b (a1k e)))
theorem d1e (e:Ev):d2r e=(((e.k == (7:Int))=true→(e.ob == (0:Int))=a1k e)∧((e.k == (7:Int))=false→((e.k == (9:Int))=true→t8 e.ob (4:Int)=a1k e)∧((e.k == (9:Int))=false→((e.k == (10:Int))=true→t8 e.ob (4:Int)=a1k e)∧((e.k == (10:Int))=false→((e.k == (11:Int))=true→t8 e.ob (4:Int)=a1k e)∧((e.k == (11:Int))=false→((e.k == (12:Int))=true→t8 e.ob (4:Int)=a1k e)∧((e.k == (12:Int))=false→((e.k == (13:Int))=true→t8 e.ob (4:Int)=a1k e)∧((e.k == (13:Int))=false→((e.k == (14:Int))=true→t8 e.ob (4:Int)=a1k e)∧((e.k == (14:Int))=false→((e.k == (15:Int))=true→t8 e.ob (4:Int)=a1k e)∧((e.k == (15:Int))=false→((e.k == (16:Int))=true→decide (e.ob ≥ (0:Int))=a1k e)∧((e.k == (16:Int))=false→((e.k == (17:Int))=true→decide (e.ob ≥ (0:Int))=a1k e)∧((e.k == (17:Int))=false→t8 e.ob (8:Int)=a1k e))))))))))):=by kernel_rfl
theorem v126 (e:Ev) :d2r e:=by
 rw[d1e]
 simp only[a1k]; grind
def d2s (e:Ev):Prop:=n7 (({ calls:=[kI2 132 t8,kI1 130 a17,kI1 153 a02] }:Kit)).tab Tryz.f127 [a5m e] [] (l4 (.b (a3g e)))
theorem d1f (e:Ev):d2s e=(((e.k == (11:Int))=true→t8 e.rd (2:Int)=a3g e)∧((e.k == (11:Int))=false→((e.k == (14:Int))=true→t8 e.rd (2:Int)=a3g e)∧((e.k == (14:Int))=false→((e.k == (15:Int))=true→decide (e.rd ≥ (0:Int))=a3g e)∧((e.k == (15:Int))=false→(a17 e.rd && (a02 e.k || e.rd == (0:Int)))=a3g e)))):=by kernel_rfl
theorem v127 (e:Ev) :d2s e:=by
 rw[d1f]
 simp only[a3g]; grind
def d2t (e:Ev):Prop:=n7 (({}:Kit)).tab Tryz.f128 [a5m e] [] (l4 (.b (a37 e)))
theorem d1g (e:Ev):d2t e=(((e.k == (1:Int))=true→decide (e.en ≥ (-1:Int))=a37 e)∧((e.k == (1:Int))=false→((e.k == (8:Int))=true→decide (e.en ≥ (-1:Int))=a37 e)∧((e.k == (8:Int))=false→((e.k == (3:Int))=true→decide (e.en ≥ (0:Int))=a37 e)∧((e.k == (3:Int))=false→((e.k == (4:Int))=true→decide (e.en ≥ (0:Int))=a37 e)∧((e.k == (4:Int))=false→(e.en == (-1:Int))=a37 e))))):=by kernel_rfl
theorem v128 (e:Ev) :d2t e:=by
 rw[d1g]
 simp only[a37]; grind
def q85D (e:Ev):Prop:=n7 (({ calls:=[kI2 132 t8,kI1 130 a17,kI1 153 a02,kI1 125 a2t,kI1 129 a4h,kI1 131 a0a,kE1 126 a1k,kE1 127 a3g,kE1 128 a37] }:Kit)).tab Tryz.f85 [a5m e] [] (l4 (.b (q6 e)))
theorem d6c (e:Ev):q85D e=(((decide (e.k < (1:Int)) || decide (e.k > (17:Int)) || !a2t e.ag == (e.k == (4:Int)) || decide (e.ix < (0:Int)) || !a1k e || !a3g e || !a37 e)=true→false=q6 e)∧((decide (e.k < (1:Int)) || decide (e.k > (17:Int)) || !a2t e.ag == (e.k == (4:Int)) || decide (e.ix < (0:Int)) || !a1k e || !a3g e || !a37 e)=false→((decide (e.od < (0:Int)) || decide (e.od > (2:Int)) || !a4h e.k && e.od != (0:Int) || !a17 e.wr || !a0a e.k && e.wr != (0:Int))=true→false=q6 e)∧((decide (e.od < (0:Int)) || decide (e.od > (2:Int)) || !a4h e.k && e.od != (0:Int) || !a17 e.wr || !a0a e.k && e.wr != (0:Int))=false→((e.k == (12:Int))=true→t8 e.mu (4:Int)=q6 e)∧((e.k == (12:Int))=false→(e.mu == (-1:Int))=q6 e)))):=by kernel_rfl
theorem v85 (e:Ev) :q85D e:=by
 rw[d6c]
 simp only[z0o,true_and,and_true,if_true,a2t]
 obtain⟨ag,ix,k,ob,mu,en,od,rd,wr⟩:=e
 simp only[q6] <;> grind
theorem n125 (nm:List (Option AV)):CallOk Tryz.prog [] 125 (n6 EL none nm [.lf .i] (sI1 a2t)):=x4 Tryz.func125 d7d fun av pre rv h=>by
 unfold sI1 at h; split at h <;> cases h
 exact⟨⟨rfl,fun t a e=>by cases e <;> exact z0h _ _⟩,fun hp=>⟨_,v125 _ ,rfl,t6,t7⟩⟩
theorem n152 (nm:List (Option AV)):CallOk Tryz.prog [] 152 (n6 EL none nm [.lf .i] (sI1 a2t)):=x4 Tryz.func152 d7w fun av pre rv h=>by
 unfold sI1 at h; split at h <;> cases h
 exact⟨⟨rfl,fun t a e=>by cases e <;> exact z0h _ _⟩,fun hp=>⟨_,v152 _ ,rfl,t6,t7⟩⟩
theorem n130 (nm:List (Option AV)):CallOk Tryz.prog [] 130 (n6 EL none nm [.lf .i] (sI1 a17)):=x4 Tryz.func130 d7i fun av pre rv h=>by
 unfold sI1 at h; split at h <;> cases h
 exact⟨⟨rfl,fun t a e=>by cases e <;> exact z0h _ _⟩,fun hp=>⟨_,v130 _ ,rfl,t6,t7⟩⟩
theorem n129 (nm:List (Option AV)):CallOk Tryz.prog [] 129 (n6 EL none nm [.lf .i] (sI1 a4h)):=x4 Tryz.func129 d7h fun av pre rv h=>by
 unfold sI1 at h; split at h <;> cases h
 exact⟨⟨rfl,fun t a e=>by cases e <;> exact z0h _ _⟩,fun hp=>⟨_,v129 _ ,rfl,t6,t7⟩⟩
theorem n153 (nm:List (Option AV)):CallOk Tryz.prog [] 153 (n6 EL none nm [.lf .i] (sI1 a02)):=x4 Tryz.func153 d7x fun av pre rv h=>by
 unfold sI1 at h; split at h <;> cases h
 exact⟨⟨rfl,fun t a e=>by cases e <;> exact z0h _ _⟩,fun hp=>⟨_,v153 _ ,rfl,t6,t7⟩⟩
theorem n131 (nm:List (Option AV)):CallOk Tryz.prog [] 131 (n6 EL none nm [.lf .i] (sI1 a0a)):=x4 Tryz.func131 d7j fun av pre rv h=>by
 unfold sI1 at h; split at h <;> cases h
 exact⟨⟨rfl,fun t a e=>by cases e <;> exact z0h _ _⟩,fun hp=>⟨_,v131 _ ,rfl,t6,t7⟩⟩
theorem d3z (nm:List (Option AV)):CallOk Tryz.prog [] 132 (n6 EL none nm [.lf .i,.lf .i] (sI2 t8)):=x4 Tryz.func132 d7k fun av pre rv h=>by
 unfold sI2 at h; split at h <;> cases h
 exact⟨⟨rfl,fun t a e=>by cases e <;> exact z0h _ _⟩,fun hp=>⟨_,v132 _ _ ,rfl,t6,t7⟩⟩
theorem n126 (nm:List (Option AV)):CallOk Tryz.prog [] 126 (n6 EL none nm [.lf .ev] (sE1 a1k)):=x4 Tryz.func126 d7e fun av pre rv h=>by
 unfold sE1 at h; split at h <;> cases h
 exact⟨⟨rfl,fun t a e=>by cases e <;> exact z0h _ _⟩,fun hp=>⟨_,v126 _ ,rfl,(m4 (d3z _) t6),t7⟩⟩
theorem n127 (nm:List (Option AV)):CallOk Tryz.prog [] 127 (n6 EL none nm [.lf .ev] (sE1 a3g)):=x4 Tryz.func127 d7f fun av pre rv h=>by
 unfold sE1 at h; split at h <;> cases h
 exact⟨⟨rfl,fun t a e=>by cases e <;> exact z0h _ _⟩,fun hp=>⟨_,v127 _ ,rfl,(m4 (d3z _) (m4 (n130 _) (m4 (n153 _) t6))),t7⟩⟩
theorem n128 (nm:List (Option AV)):CallOk Tryz.prog [] 128 (n6 EL none nm [.lf .ev] (sE1 a37)):=x4 Tryz.func128 d7g fun av pre rv h=>by
 unfold sE1 at h; split at h <;> cases h
 exact⟨⟨rfl,fun t a e=>by cases e <;> exact z0h _ _⟩,fun hp=>⟨_,v128 _ ,rfl,t6,t7⟩⟩
theorem n85 (nm:List (Option AV)):CallOk Tryz.prog [] 85 (n6 EL none nm [.lf .ev] (sE1 q6)):=x4 Tryz.func85 fo85 fun av pre rv h=>by
 unfold sE1 at h; split at h <;> cases h
 exact⟨⟨rfl,fun t a e=>by cases e <;> exact z0h _ _⟩,fun hp=>⟨_,v85 _ ,rfl,(m4 (d3z _) (m4 (n130 _) (m4 (n153 _) (m4 (n125 _) (m4 (n129 _) (m4 (n131 _) (m4 (n126 _) (m4 (n127 _) (m4 (n128 _) t6))))))))),t7⟩⟩
theorem r1:e8 a09 ((0:Int).toNat)=7∧o9 a1v ((0:Int).toNat)=true∧e8 a2f ((0:Int).toNat) = -2147483648∧e8 a08 ((0:Int).toNat)=2147483647∧o9 y4 ((0:Int).toNat)=false∧e8 y3 ((0:Int).toNat) = -1∧e8 a32 ((0:Int).toNat)=1∧o9 a04 ((0:Int).toNat)=false∧IntKind.i64.wrap (1 - 1)=0:=⟨rfl,rfl,rfl,rfl,rfl,rfl,rfl,rfl,rfl⟩
theorem r2:e8 a09 ((1:Int).toNat)=7∧o9 a1v ((1:Int).toNat)=true∧e8 a2f ((1:Int).toNat)=0∧e8 a08 ((1:Int).toNat)=0∧o9 y4 ((1:Int).toNat)=true∧e8 y3 ((1:Int).toNat) = -2∧e8 a32 ((1:Int).toNat)=1∧o9 a04 ((1:Int).toNat)=true∧IntKind.i64.wrap (2 - 1)=1:=⟨rfl,rfl,rfl,rfl,rfl,rfl,rfl,rfl,rfl⟩
theorem r3:e8 a09 ((2:Int).toNat)=7∧o9 a1v ((2:Int).toNat)=true∧e8 a2f ((2:Int).toNat)=0∧e8 a08 ((2:Int).toNat)=0∧o9 y4 ((2:Int).toNat)=true∧e8 y3 ((2:Int).toNat)=0∧e8 a32 ((2:Int).toNat)=4∧o9 a04 ((2:Int).toNat)=true∧IntKind.i64.wrap (3 - 1)=2:=⟨rfl,rfl,rfl,rfl,rfl,rfl,rfl,rfl,rfl⟩
theorem r4:e8 a09 ((3:Int).toNat)=7∧o9 a1v ((3:Int).toNat)=false∧e8 a2f ((3:Int).toNat)=0∧e8 a08 ((3:Int).toNat)=0∧o9 y4 ((3:Int).toNat)=true∧e8 y3 ((3:Int).toNat)=0∧e8 a32 ((3:Int).toNat)=1∧o9 a04 ((3:Int).toNat)=true∧IntKind.i64.wrap (4 - 1)=3:=⟨rfl,rfl,rfl,rfl,rfl,rfl,rfl,rfl,rfl⟩
theorem r5:e8 a09 ((4:Int).toNat)=7∧o9 a1v ((4:Int).toNat)=true∧e8 a2f ((4:Int).toNat) = -2147483648∧e8 a08 ((4:Int).toNat)=2147483647∧o9 y4 ((4:Int).toNat)=true∧e8 y3 ((4:Int).toNat) = -2∧e8 a32 ((4:Int).toNat)=1∧o9 a04 ((4:Int).toNat)=true∧IntKind.i64.wrap (5 - 1)=4:=⟨rfl,rfl,rfl,rfl,rfl,rfl,rfl,rfl,rfl⟩
theorem r6:e8 a09 ((5:Int).toNat)=7∧o9 a1v ((5:Int).toNat)=true∧e8 a2f ((5:Int).toNat) = -2147483648∧e8 a08 ((5:Int).toNat)=2147483647∧o9 y4 ((5:Int).toNat)=false∧e8 y3 ((5:Int).toNat) = -2∧e8 a32 ((5:Int).toNat)=1∧o9 a04 ((5:Int).toNat)=false∧IntKind.i64.wrap (6 - 1)=5:=⟨rfl,rfl,rfl,rfl,rfl,rfl,rfl,rfl,rfl⟩
theorem r7:e8 a09 ((6:Int).toNat)=0∧o9 a1v ((6:Int).toNat)=false∧e8 a2f ((6:Int).toNat)=0∧e8 a08 ((6:Int).toNat)=0∧o9 y4 ((6:Int).toNat)=false∧e8 y3 ((6:Int).toNat) = -2∧e8 a32 ((6:Int).toNat)=0∧o9 a04 ((6:Int).toNat)=false∧IntKind.i64.wrap (7 - 1)=6:=⟨rfl,rfl,rfl,rfl,rfl,rfl,rfl,rfl,rfl⟩
theorem r8:e8 a09 ((7:Int).toNat)=7∧o9 a1v ((7:Int).toNat)=true∧e8 a2f ((7:Int).toNat) = -2147483648∧e8 a08 ((7:Int).toNat)=2147483647∧o9 y4 ((7:Int).toNat)=false∧e8 y3 ((7:Int).toNat) = -1∧e8 a32 ((7:Int).toNat)=1∧o9 a04 ((7:Int).toNat)=false∧IntKind.i64.wrap (8 - 1)=7:=⟨rfl,rfl,rfl,rfl,rfl,rfl,rfl,rfl,rfl⟩
theorem r9:e8 a09 ((8:Int).toNat)=3∧o9 a1v ((8:Int).toNat)=false∧e8 a2f ((8:Int).toNat)=0∧e8 a08 ((8:Int).toNat)=0∧o9 y4 ((8:Int).toNat)=false∧e8 y3 ((8:Int).toNat) = -2∧e8 a32 ((8:Int).toNat)=2∧o9 a04 ((8:Int).toNat)=true∧IntKind.i64.wrap (9 - 1)=8:=⟨rfl,rfl,rfl,rfl,rfl,rfl,rfl,rfl,rfl⟩
theorem r10:e8 a09 ((9:Int).toNat)=3∧o9 a1v ((9:Int).toNat)=false∧e8 a2f ((9:Int).toNat)=0∧e8 a08 ((9:Int).toNat)=0∧o9 y4 ((9:Int).toNat)=false∧e8 y3 ((9:Int).toNat) = -2∧e8 a32 ((9:Int).toNat)=2∧o9 a04 ((9:Int).toNat)=true∧IntKind.i64.wrap (10 - 1)=9:=⟨rfl,rfl,rfl,rfl,rfl,rfl,rfl,rfl,rfl⟩
theorem r11:e8 a09 ((10:Int).toNat)=3∧o9 a1v ((10:Int).toNat)=false∧e8 a2f ((10:Int).toNat)=0∧e8 a08 ((10:Int).toNat)=1∧o9 y4 ((10:Int).toNat)=false∧e8 y3 ((10:Int).toNat) = -2∧e8 a32 ((10:Int).toNat)=2∧o9 a04 ((10:Int).toNat)=true∧IntKind.i64.wrap (11 - 1)=10:=⟨rfl,rfl,rfl,rfl,rfl,rfl,rfl,rfl,rfl⟩
theorem r12:e8 a09 ((11:Int).toNat)=3∧o9 a1v ((11:Int).toNat)=false∧e8 a2f ((11:Int).toNat)=0∧e8 a08 ((11:Int).toNat)=0∧o9 y4 ((11:Int).toNat)=false∧e8 y3 ((11:Int).toNat) = -2∧e8 a32 ((11:Int).toNat)=3∧o9 a04 ((11:Int).toNat)=true∧IntKind.i64.wrap (12 - 1)=11:=⟨rfl,rfl,rfl,rfl,rfl,rfl,rfl,rfl,rfl⟩
theorem r13:e8 a09 ((12:Int).toNat)=3∧o9 a1v ((12:Int).toNat)=false∧e8 a2f ((12:Int).toNat)=0∧e8 a08 ((12:Int).toNat)=0∧o9 y4 ((12:Int).toNat)=false∧e8 y3 ((12:Int).toNat) = -2∧e8 a32 ((12:Int).toNat)=3∧o9 a04 ((12:Int).toNat)=true∧IntKind.i64.wrap (13 - 1)=12:=⟨rfl,rfl,rfl,rfl,rfl,rfl,rfl,rfl,rfl⟩
theorem r14:e8 a09 ((13:Int).toNat)=3∧o9 a1v ((13:Int).toNat)=false∧e8 a2f ((13:Int).toNat)=0∧e8 a08 ((13:Int).toNat)=1∧o9 y4 ((13:Int).toNat)=false∧e8 y3 ((13:Int).toNat) = -2∧e8 a32 ((13:Int).toNat)=3∧o9 a04 ((13:Int).toNat)=true∧IntKind.i64.wrap (14 - 1)=13:=⟨rfl,rfl,rfl,rfl,rfl,rfl,rfl,rfl,rfl⟩
theorem r15:e8 a09 ((14:Int).toNat)=3∧o9 a1v ((14:Int).toNat)=false∧e8 a2f ((14:Int).toNat)=0∧e8 a08 ((14:Int).toNat) = -1∧o9 y4 ((14:Int).toNat)=false∧e8 y3 ((14:Int).toNat) = -2∧e8 a32 ((14:Int).toNat)=3∧o9 a04 ((14:Int).toNat)=true∧IntKind.i64.wrap (15 - 1)=14:=⟨rfl,rfl,rfl,rfl,rfl,rfl,rfl,rfl,rfl⟩
theorem r16:e8 a09 ((15:Int).toNat) = -1∧o9 a1v ((15:Int).toNat)=false∧e8 a2f ((15:Int).toNat)=0∧e8 a08 ((15:Int).toNat)=0∧o9 y4 ((15:Int).toNat)=false∧e8 y3 ((15:Int).toNat) = -2∧e8 a32 ((15:Int).toNat)=0∧o9 a04 ((15:Int).toNat)=false∧IntKind.i64.wrap (16 - 1)=15:=⟨rfl,rfl,rfl,rfl,rfl,rfl,rfl,rfl,rfl⟩
theorem r17:e8 a09 ((16:Int).toNat) = -1∧o9 a1v ((16:Int).toNat)=false∧e8 a2f ((16:Int).toNat)=0∧e8 a08 ((16:Int).toNat)=0∧o9 y4 ((16:Int).toNat)=false∧e8 y3 ((16:Int).toNat) = -2∧e8 a32 ((16:Int).toNat)=0∧o9 a04 ((16:Int).toNat)=false∧IntKind.i64.wrap (17 - 1)=16:=⟨rfl,rfl,rfl,rfl,rfl,rfl,rfl,rfl,rfl⟩
theorem c25 {k:Int} (h1:1≤k) (h2:k≤17):k=1∨k=2∨k=3∨k=4∨k=5∨k=6∨k=7∨k=8∨k=9∨k=10∨k=11∨k=12∨k=13∨k=14∨k=15∨k=16∨k=17:=by omega
def d2o (e:Ev):Prop:=n7 (({ g:=true,calls:=[kI1 152 a2t] }:Kit)).tab Tryz.f123 [a5m e] [tbl] (l4 (.b (q6 e)))
theorem d1b (e:Ev):d2o e=(((decide (e.k < (1:Int)) || decide (e.k > (17:Int)) || decide (e.ix < (0:Int)) || !a2t e.ag == (e.k == (4:Int)))=true→false=q6 e)∧((decide (e.k < (1:Int)) || decide (e.k > (17:Int)) || decide (e.ix < (0:Int)) || !a2t e.ag == (e.k == (4:Int)))=false→((0:Int)≤IntKind.i64.wrap (e.k - (1:Int))∧IntKind.i64.wrap (e.k - (1:Int)) < (↑(17:Nat):Int))∧(IntKind.i64.wrap (e.k - (1:Int))).toNat < (17:Nat)∧((decide (e.ob < (0:Int)) || e8 a09 (IntKind.i64.wrap (e.k - (1:Int))).toNat != (-1:Int) && decide (e.ob > e8 a09 (IntKind.i64.wrap (e.k - (1:Int))).toNat) || decide (e.rd < e8 a2f (IntKind.i64.wrap (e.k - (1:Int))).toNat) || e8 a08 (IntKind.i64.wrap (e.k - (1:Int))).toNat != (-1:Int) && decide (e.rd > e8 a08 (IntKind.i64.wrap (e.k - (1:Int))).toNat))=true→false=q6 e)∧((decide (e.ob < (0:Int)) || e8 a09 (IntKind.i64.wrap (e.k - (1:Int))).toNat != (-1:Int) && decide (e.ob > e8 a09 (IntKind.i64.wrap (e.k - (1:Int))).toNat) || decide (e.rd < e8 a2f (IntKind.i64.wrap (e.k - (1:Int))).toNat) || e8 a08 (IntKind.i64.wrap (e.k - (1:Int))).toNat != (-1:Int) && decide (e.rd > e8 a08 (IntKind.i64.wrap (e.k - (1:Int))).toNat))=false→((o9 a1v (IntKind.i64.wrap (e.k - (1:Int))).toNat && (decide (e.od < (0:Int)) || decide (e.od > (2:Int))) || !o9 a1v (IntKind.i64.wrap (e.k - (1:Int))).toNat && e.od != (0:Int))=true →
 false=q6 e)∧((o9 a1v (IntKind.i64.wrap (e.k - (1:Int))).toNat && (decide (e.od < (0:Int)) || decide (e.od > (2:Int))) || !o9 a1v (IntKind.i64.wrap (e.k - (1:Int))).toNat && e.od != (0:Int))=false→((o9 y4 (IntKind.i64.wrap (e.k - (1:Int))).toNat && (decide (e.wr < (-2147483648:Int)) || decide (e.wr > (2147483647:Int))) || !o9 y4 (IntKind.i64.wrap (e.k - (1:Int))).toNat && e.wr != (0:Int))=true→false=q6 e)∧((o9 y4 (IntKind.i64.wrap (e.k - (1:Int))).toNat && (decide (e.wr < (-2147483648:Int)) || decide (e.wr > (2147483647:Int))) || !o9 y4 (IntKind.i64.wrap (e.k - (1:Int))).toNat && e.wr != (0:Int))=false→((e8 y3 (IntKind.i64.wrap (e.k - (1:Int))).toNat == (-2:Int) && e.en != (-1:Int) || decide (e.en < e8 y3 (IntKind.i64.wrap (e.k - (1:Int))).toNat))=true→false=q6 e)∧((e8 y3 (IntKind.i64.wrap (e.k - (1:Int))).toNat == (-2:Int) && e.en != (-1:Int) || decide (e.en < e8 y3 (IntKind.i64.wrap (e.k - (1:Int))).toNat))=false→((e.k == (12:Int))=true→(decide (e.mu ≥ (0:Int)) && decide (e.mu < (4:Int)))=q6 e)∧((e.k == (12:Int))=false→(e.mu == (-1:Int))=q6 e))))))):=by kernel_rfl
theorem v123 (e:Ev) :d2o e:=by
 rw[d1b]
 simp only[i5,a2t]
 obtain⟨ag,ix,k,ob,mu,en,od,rd,wr⟩:=e
 dsimp only
 refine⟨fun h=>?_,fun h=>?_⟩
 ·simp only[q6]
  grind
 ·have hk:1≤k∧k≤17:=by grind
  rcases c25 hk.1 hk.2 with rfl | rfl | rfl | rfl | rfl | rfl | rfl | rfl | rfl | rfl | rfl | rfl | rfl | rfl | rfl | rfl | rfl
  ·obtain⟨a1,a2,a3,a4,a5,a6,a7,a8,a9⟩:=r1
   simp only[a9,a1,a2,a3,a4,a5,a6,q6,a2t,a1k,a3g,a37,t8,a17,a4h,a02,a0a] at h ⊢
   refine⟨by decide,by decide,?_⟩
   grind
  ·obtain⟨a1,a2,a3,a4,a5,a6,a7,a8,a9⟩:=r2
   simp only[a9,a1,a2,a3,a4,a5,a6,q6,a2t,a1k,a3g,a37,t8,a17,a4h,a02,a0a] at h ⊢
   refine⟨by decide,by decide,?_⟩
   grind
  ·obtain⟨a1,a2,a3,a4,a5,a6,a7,a8,a9⟩:=r3
   simp only[a9,a1,a2,a3,a4,a5,a6,q6,a2t,a1k,a3g,a37,t8,a17,a4h,a02,a0a] at h ⊢
   refine⟨by decide,by decide,?_⟩
   grind
  ·obtain⟨a1,a2,a3,a4,a5,a6,a7,a8,a9⟩:=r4
   simp only[a9,a1,a2,a3,a4,a5,a6,q6,a2t,a1k,a3g,a37,t8,a17,a4h,a02,a0a] at h ⊢
   refine⟨by decide,by decide,?_⟩
   grind
  ·obtain⟨a1,a2,a3,a4,a5,a6,a7,a8,a9⟩:=r5
   simp only[a9,a1,a2,a3,a4,a5,a6,q6,a2t,a1k,a3g,a37,t8,a17,a4h,a02,a0a] at h ⊢
   refine⟨by decide,by decide,?_⟩
   grind
  ·obtain⟨a1,a2,a3,a4,a5,a6,a7,a8,a9⟩:=r6
   simp only[a9,a1,a2,a3,a4,a5,a6,q6,a2t,a1k,a3g,a37,t8,a17,a4h,a02,a0a] at h ⊢
   refine⟨by decide,by decide,?_⟩
   grind
  ·obtain⟨a1,a2,a3,a4,a5,a6,a7,a8,a9⟩:=r7
   simp only[a9,a1,a2,a3,a4,a5,a6,q6,a2t,a1k,a3g,a37,t8,a17,a4h,a02,a0a] at h ⊢
   refine⟨by decide,by decide,?_⟩
   grind
  ·obtain⟨a1,a2,a3,a4,a5,a6,a7,a8,a9⟩:=r8
   simp only[a9,a1,a2,a3,a4,a5,a6,q6,a2t,a1k,a3g,a37,t8,a17,a4h,a02,a0a] at h ⊢
   refine⟨by decide,by decide,?_⟩
   grind
  ·obtain⟨a1,a2,a3,a4,a5,a6,a7,a8,a9⟩:=r9
   simp only[a9,a1,a2,a3,a4,a5,a6,q6,a2t,a1k,a3g,a37,t8,a17,a4h,a02,a0a] at h ⊢
   refine⟨by decide,by decide,?_⟩
   grind
  ·obtain⟨a1,a2,a3,a4,a5,a6,a7,a8,a9⟩:=r10
   simp only[a9,a1,a2,a3,a4,a5,a6,q6,a2t,a1k,a3g,a37,t8,a17,a4h,a02,a0a] at h ⊢
   refine⟨by decide,by decide,?_⟩
   grind
  ·obtain⟨a1,a2,a3,a4,a5,a6,a7,a8,a9⟩:=r11
   simp only[a9,a1,a2,a3,a4,a5,a6,q6,a2t,a1k,a3g,a37,t8,a17,a4h,a02,a0a] at h ⊢
   refine⟨by decide,by decide,?_⟩
   grind
  ·obtain⟨a1,a2,a3,a4,a5,a6,a7,a8,a9⟩:=r12
   simp only[a9,a1,a2,a3,a4,a5,a6,q6,a2t,a1k,a3g,a37,t8,a17,a4h,a02,a0a] at h ⊢
   refine⟨by decide,by decide,?_⟩
   grind
  ·obtain⟨a1,a2,a3,a4,a5,a6,a7,a8,a9⟩:=r13
   simp only[a9,a1,a2,a3,a4,a5,a6,q6,a2t,a1k,a3g,a37,t8,a17,a4h,a02,a0a] at h ⊢
   refine⟨by decide,by decide,?_⟩
   grind
  ·obtain⟨a1,a2,a3,a4,a5,a6,a7,a8,a9⟩:=r14
   simp only[a9,a1,a2,a3,a4,a5,a6,q6,a2t,a1k,a3g,a37,t8,a17,a4h,a02,a0a] at h ⊢
   refine⟨by decide,by decide,?_⟩
   grind
  ·obtain⟨a1,a2,a3,a4,a5,a6,a7,a8,a9⟩:=r15
   simp only[a9,a1,a2,a3,a4,a5,a6,q6,a2t,a1k,a3g,a37,t8,a17,a4h,a02,a0a] at h ⊢
   refine⟨by decide,by decide,?_⟩
   grind
  ·obtain⟨a1,a2,a3,a4,a5,a6,a7,a8,a9⟩:=r16
   simp only[a9,a1,a2,a3,a4,a5,a6,q6,a2t,a1k,a3g,a37,t8,a17,a4h,a02,a0a] at h ⊢
   refine⟨by decide,by decide,?_⟩
   grind
  ·obtain⟨a1,a2,a3,a4,a5,a6,a7,a8,a9⟩:=r17
   simp only[a9,a1,a2,a3,a4,a5,a6,q6,a2t,a1k,a3g,a37,t8,a17,a4h,a02,a0a] at h ⊢
   refine⟨by decide,by decide,?_⟩
   grind
def kVE:Nat × (List MBlk→List SV→Option AR):=(123,n6 EL gbT [] [.lf .ev] (sE1 q6))
theorem n123 (nm:List (Option AV)):CallOk Tryz.prog GL 123 (n6 EL gbT nm [.lf .ev] (sE1 q6)):=a4r Tryz.func123 d7b fun av pre rv h=>by
 unfold sE1 at h; split at h <;> cases h
 exact⟨⟨rfl,fun t a e=>by cases e <;> exact z0h _ _⟩,fun hp=>⟨_,v123 _ ,rfl,(m4 (a11 (n152 _)) t6),t7⟩⟩
def rdE (e:Ev):Bool:=a02 e.k
def wrE (e:Ev):Bool:=e.k == 2 || e.k == 5
def a73 (e:Ev):Int:=bif e.k == 9 || e.k == 10 || e.k == 11 then e.ob else bif e.k == 12 then e.mu else -1
def a3j (e:Ev):Int:=bif e.k == 12 || e.k == 13 || e.k == 14 || e.k == 15 then e.ob else -1
def a9e (e:Ev):Int:=bif e.k == 9 || e.k == 10 || e.k == 11 then e.ob else e.mu
def a9r (a b:Ev):Bool:=(decide (a73 a ≥ 0) && a73 a == a73 b) || (decide (a3j a ≥ 0) && a3j a == a3j b)
theorem fo80:o6 Tryz.prog 80:=⟨Tryz.f80,Tryz.func80,by kernel_rfl,by kernel_rfl⟩
theorem fo81:o6 Tryz.prog 81:=⟨Tryz.f81,Tryz.func81,by kernel_rfl,by kernel_rfl⟩
theorem fo86:o6 Tryz.prog 86:=⟨Tryz.f86,Tryz.func86,by kernel_rfl,by kernel_rfl⟩
theorem fo84:o6 Tryz.prog 84:=⟨Tryz.f84,Tryz.func84,by kernel_rfl,by kernel_rfl⟩
theorem d74:o6 Tryz.prog 113:=⟨Tryz.f113,Tryz.func113,by kernel_rfl,by kernel_rfl⟩
theorem d75:o6 Tryz.prog 114:=⟨Tryz.f114,Tryz.func114,by kernel_rfl,by kernel_rfl⟩
theorem d7l:o6 Tryz.prog 139:=⟨Tryz.f139,Tryz.func139,by kernel_rfl,by kernel_rfl⟩
theorem d7m:o6 Tryz.prog 140:=⟨Tryz.f140,Tryz.func140,by kernel_rfl,by kernel_rfl⟩
theorem fo58:o6 Tryz.prog 58:=⟨Tryz.f58,Tryz.func58,by kernel_rfl,by kernel_rfl⟩
def q80D (e:Ev):Prop:=n7 (({}:Kit)).tab Tryz.f80 [a5m e] [] (l4 (.b (rdE e)))
theorem d67 (e:Ev):q80D e=((e.k == (1:Int) || e.k == (8:Int) || e.k == (5:Int) || e.k == (6:Int))=rdE e):=by kernel_rfl
theorem v80 (e:Ev) :q80D e:=by
 rw[d67]
 first | rfl | (simp only[rdE,a02]; grind)
def q81D (e:Ev):Prop:=n7 (({}:Kit)).tab Tryz.f81 [a5m e] [] (l4 (.b (wrE e)))
theorem d68 (e:Ev):q81D e=((e.k == (2:Int) || e.k == (5:Int))=wrE e):=by kernel_rfl
theorem v81 (e:Ev) :q81D e:=by
 rw[d68]
 first | rfl | (simp only[wrE,a02]; grind)
def q86D (e:Ev):Prop:=n7 (({}:Kit)).tab Tryz.f86 [a5m e] [] (l4 (.b (rdE e)))
theorem d6d (e:Ev):q86D e=((e.k == (1:Int) || e.k == (8:Int) || e.k == (5:Int) || e.k == (6:Int))=rdE e):=by kernel_rfl
theorem v86 (e:Ev) :q86D e:=by
 rw[d6d]
 first | rfl | (simp only[rdE,a02]; grind)
def q84D (e:Ev):Prop:=n7 (({}:Kit)).tab Tryz.f84 [a5m e] [] (l4 (.b (wrE e)))
theorem d6b (e:Ev):q84D e=((e.k == (2:Int) || e.k == (5:Int))=wrE e):=by kernel_rfl
theorem v84 (e:Ev) :q84D e:=by
 rw[d6b]
 first | rfl | (simp only[wrE,a02]; grind)
def d2k (e:Ev):Prop:=n7 (({}:Kit)).tab Tryz.f113 [a5m e] [] (l4 (.i .i64 (a73 e)))
theorem d15 (e:Ev):d2k e=(((e.k == (9:Int))=true→e.ob=a73 e)∧((e.k == (9:Int))=false→((e.k == (10:Int))=true→e.ob=a73 e)∧((e.k == (10:Int))=false→((e.k == (11:Int))=true→e.ob=a73 e)∧((e.k == (11:Int))=false→((e.k == (12:Int))=true→e.mu=a73 e)∧((e.k == (12:Int))=false→(-1:Int)=a73 e))))):=by kernel_rfl
theorem v113 (e:Ev) :d2k e:=by
 rw[d15]
 first | rfl | (simp only[a73,a02]; grind)
def d2l (e:Ev):Prop:=n7 (({}:Kit)).tab Tryz.f114 [a5m e] [] (l4 (.i .i64 (a3j e)))
theorem d16 (e:Ev):d2l e=(((e.k == (12:Int))=true→e.ob=a3j e)∧((e.k == (12:Int))=false→((e.k == (13:Int))=true→e.ob=a3j e)∧((e.k == (13:Int))=false→((e.k == (14:Int))=true→e.ob=a3j e)∧((e.k == (14:Int))=false→((e.k == (15:Int))=true→e.ob=a3j e)∧((e.k == (15:Int))=false→(-1:Int)=a3j e))))):=by kernel_rfl
theorem v114 (e:Ev) :d2l e:=by
 rw[d16]
 first | rfl | (simp only[a3j,a02]; grind)
def d2y (e:Ev):Prop:=n7 (({}:Kit)).tab Tryz.f139 [a5m e] [] (l4 (.i .i64 (a9e e)))
theorem d1l (e:Ev):d2y e=(((e.k == (9:Int) || e.k == (10:Int) || e.k == (11:Int))=true→e.ob=a9e e)∧((e.k == (9:Int) || e.k == (10:Int) || e.k == (11:Int))=false→e.mu=a9e e)):=by kernel_rfl
theorem v139 (e:Ev) :d2y e:=by
 rw[d1l]
 first | rfl | (simp only[a9e,a02]; grind)
def d2z (e:Ev):Prop:=n7 (({}:Kit)).tab Tryz.f140 [a5m e] [] (l4 (.i .i64 (a3j e)))
theorem d1m (e:Ev):d2z e=(((e.k == (12:Int) || e.k == (13:Int) || e.k == (14:Int) || e.k == (15:Int))=true→e.ob=a3j e)∧((e.k == (12:Int) || e.k == (13:Int) || e.k == (14:Int) || e.k == (15:Int))=false→(-1:Int)=a3j e)):=by kernel_rfl
theorem v140 (e:Ev) :d2z e:=by
 rw[d1m]
 first | rfl | (simp only[a3j,a02]; grind)
def q58D (e d:Ev):Prop:=n7 (({ calls:=[c99 113 a73,c99 114 a3j] }:Kit)).tab Tryz.f58 [a5m e,a5m d] [] (l4 (.b (a9r e d)))
theorem d5z (e d:Ev):q58D e d=((decide (a73 e ≥ (0:Int)) && a73 e == a73 d || decide (a3j e ≥ (0:Int)) && a3j e == a3j d)=a9r e d):=by kernel_rfl
theorem v58 (e d:Ev) :q58D e d:=by
 rw[d5z]
 first | rfl | (simp only[a9r]; grind)
theorem n80 (nm:List (Option AV)):CallOk Tryz.prog [] 80 (n6 EL none nm [.lf .ev] (sE1 rdE)):=x4 Tryz.func80 fo80 fun av pre rv h=>by
 unfold sE1 at h; split at h <;> cases h
 exact⟨⟨rfl,fun t a e=>by cases e <;> exact z0h _ _⟩,fun hp=>⟨_,v80 _ ,rfl,t6,t7⟩⟩
theorem n81 (nm:List (Option AV)):CallOk Tryz.prog [] 81 (n6 EL none nm [.lf .ev] (sE1 wrE)):=x4 Tryz.func81 fo81 fun av pre rv h=>by
 unfold sE1 at h; split at h <;> cases h
 exact⟨⟨rfl,fun t a e=>by cases e <;> exact z0h _ _⟩,fun hp=>⟨_,v81 _ ,rfl,t6,t7⟩⟩
theorem n86 (nm:List (Option AV)):CallOk Tryz.prog [] 86 (n6 EL none nm [.lf .ev] (sE1 rdE)):=x4 Tryz.func86 fo86 fun av pre rv h=>by
 unfold sE1 at h; split at h <;> cases h
 exact⟨⟨rfl,fun t a e=>by cases e <;> exact z0h _ _⟩,fun hp=>⟨_,v86 _ ,rfl,t6,t7⟩⟩
theorem n84 (nm:List (Option AV)):CallOk Tryz.prog [] 84 (n6 EL none nm [.lf .ev] (sE1 wrE)):=x4 Tryz.func84 fo84 fun av pre rv h=>by
 unfold sE1 at h; split at h <;> cases h
 exact⟨⟨rfl,fun t a e=>by cases e <;> exact z0h _ _⟩,fun hp=>⟨_,v84 _ ,rfl,t6,t7⟩⟩
theorem n113 (nm:List (Option AV)):CallOk Tryz.prog [] 113 (n6 EL none nm [.lf .ev] (b7g a73)):=x4 Tryz.func113 d74 fun av pre rv h=>by
 unfold b7g at h; split at h <;> cases h
 exact⟨⟨rfl,fun t a e=>by cases e <;> exact z0h _ _⟩,fun hp=>⟨_,v113 _ ,rfl,t6,t7⟩⟩
theorem n114 (nm:List (Option AV)):CallOk Tryz.prog [] 114 (n6 EL none nm [.lf .ev] (b7g a3j)):=x4 Tryz.func114 d75 fun av pre rv h=>by
 unfold b7g at h; split at h <;> cases h
 exact⟨⟨rfl,fun t a e=>by cases e <;> exact z0h _ _⟩,fun hp=>⟨_,v114 _ ,rfl,t6,t7⟩⟩
theorem n139 (nm:List (Option AV)):CallOk Tryz.prog [] 139 (n6 EL none nm [.lf .ev] (b7g a9e)):=x4 Tryz.func139 d7l fun av pre rv h=>by
 unfold b7g at h; split at h <;> cases h
 exact⟨⟨rfl,fun t a e=>by cases e <;> exact z0h _ _⟩,fun hp=>⟨_,v139 _ ,rfl,t6,t7⟩⟩
theorem n140 (nm:List (Option AV)):CallOk Tryz.prog [] 140 (n6 EL none nm [.lf .ev] (b7g a3j)):=x4 Tryz.func140 d7m fun av pre rv h=>by
 unfold b7g at h; split at h <;> cases h
 exact⟨⟨rfl,fun t a e=>by cases e <;> exact z0h _ _⟩,fun hp=>⟨_,v140 _ ,rfl,t6,t7⟩⟩
theorem n58 (nm:List (Option AV)):CallOk Tryz.prog [] 58 (n6 EL none nm [.lf .ev,.lf .ev] (sE2 a9r)):=x4 Tryz.func58 fo58 fun av pre rv h=>by
 unfold sE2 at h; split at h <;> cases h
 exact⟨⟨rfl,fun t a e=>by cases e <;> exact z0h _ _⟩,fun hp=>⟨_,v58 _ _ ,rfl,(m4 (n113 _) (m4 (n114 _) t6)),t7⟩⟩
end Go.Proofs.YtaeeaniofljmnaaGreatDoor

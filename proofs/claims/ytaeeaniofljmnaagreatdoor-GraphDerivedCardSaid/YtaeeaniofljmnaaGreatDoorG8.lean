/-
  A part of the proof (G8).
-/
import Derived.Test.YtaeeaniofljmnaaGreatDoorG6
namespace Go.Proofs.YtaeeaniofljmnaaGreatDoor
set_option linter.unusedSimpArgs false
set_option linter.unusedVariables false
open Go Go.Proofs.YtaeeaniofljmnaaGreatDoor.Sx
set_option maxRecDepth 100000
theorem r1:e8 a0c ((0:Int).toNat)=7∧p7 a1x ((0:Int).toNat)=true∧e8 a2i ((0:Int).toNat) = -2147483648∧e8 a0b ((0:Int).toNat)=2147483647∧p7 y5 ((0:Int).toNat)=false∧e8 y4 ((0:Int).toNat) = -1∧e8 a30 ((0:Int).toNat)=1∧p7 a01 ((0:Int).toNat)=false∧IntKind.i64.wrap (1 - 1)=0:=⟨rfl,rfl,rfl,rfl,rfl,rfl,rfl,rfl,rfl⟩
theorem r2:e8 a0c ((1:Int).toNat)=7∧p7 a1x ((1:Int).toNat)=true∧e8 a2i ((1:Int).toNat)=0∧e8 a0b ((1:Int).toNat)=0∧p7 y5 ((1:Int).toNat)=true∧e8 y4 ((1:Int).toNat) = -2∧e8 a30 ((1:Int).toNat)=1∧p7 a01 ((1:Int).toNat)=true∧IntKind.i64.wrap (2 - 1)=1:=⟨rfl,rfl,rfl,rfl,rfl,rfl,rfl,rfl,rfl⟩
theorem r3:e8 a0c ((2:Int).toNat)=7∧p7 a1x ((2:Int).toNat)=true∧e8 a2i ((2:Int).toNat)=0∧e8 a0b ((2:Int).toNat)=0∧p7 y5 ((2:Int).toNat)=true∧e8 y4 ((2:Int).toNat)=0∧e8 a30 ((2:Int).toNat)=4∧p7 a01 ((2:Int).toNat)=true∧IntKind.i64.wrap (3 - 1)=2:=⟨rfl,rfl,rfl,rfl,rfl,rfl,rfl,rfl,rfl⟩
theorem r4:e8 a0c ((3:Int).toNat)=7∧p7 a1x ((3:Int).toNat)=false∧e8 a2i ((3:Int).toNat)=0∧e8 a0b ((3:Int).toNat)=0∧p7 y5 ((3:Int).toNat)=true∧e8 y4 ((3:Int).toNat)=0∧e8 a30 ((3:Int).toNat)=1∧p7 a01 ((3:Int).toNat)=true∧IntKind.i64.wrap (4 - 1)=3:=⟨rfl,rfl,rfl,rfl,rfl,rfl,rfl,rfl,rfl⟩
theorem r5:e8 a0c ((4:Int).toNat)=7∧p7 a1x ((4:Int).toNat)=true∧e8 a2i ((4:Int).toNat) = -2147483648∧e8 a0b ((4:Int).toNat)=2147483647∧p7 y5 ((4:Int).toNat)=true∧e8 y4 ((4:Int).toNat) = -2∧e8 a30 ((4:Int).toNat)=1∧p7 a01 ((4:Int).toNat)=true∧IntKind.i64.wrap (5 - 1)=4:=⟨rfl,rfl,rfl,rfl,rfl,rfl,rfl,rfl,rfl⟩
theorem r6:e8 a0c ((5:Int).toNat)=7∧p7 a1x ((5:Int).toNat)=true∧e8 a2i ((5:Int).toNat) = -2147483648∧e8 a0b ((5:Int).toNat)=2147483647∧p7 y5 ((5:Int).toNat)=false∧e8 y4 ((5:Int).toNat) = -2∧e8 a30 ((5:Int).toNat)=1∧p7 a01 ((5:Int).toNat)=false∧IntKind.i64.wrap (6 - 1)=5:=⟨rfl,rfl,rfl,rfl,rfl,rfl,rfl,rfl,rfl⟩
theorem r7:e8 a0c ((6:Int).toNat)=0∧p7 a1x ((6:Int).toNat)=false∧e8 a2i ((6:Int).toNat)=0∧e8 a0b ((6:Int).toNat)=0∧p7 y5 ((6:Int).toNat)=false∧e8 y4 ((6:Int).toNat) = -2∧e8 a30 ((6:Int).toNat)=0∧p7 a01 ((6:Int).toNat)=false∧IntKind.i64.wrap (7 - 1)=6:=⟨rfl,rfl,rfl,rfl,rfl,rfl,rfl,rfl,rfl⟩
theorem r8:e8 a0c ((7:Int).toNat)=7∧p7 a1x ((7:Int).toNat)=true∧e8 a2i ((7:Int).toNat) = -2147483648∧e8 a0b ((7:Int).toNat)=2147483647∧p7 y5 ((7:Int).toNat)=false∧e8 y4 ((7:Int).toNat) = -1∧e8 a30 ((7:Int).toNat)=1∧p7 a01 ((7:Int).toNat)=false∧IntKind.i64.wrap (8 - 1)=7:=⟨rfl,rfl,rfl,rfl,rfl,rfl,rfl,rfl,rfl⟩
theorem r9:e8 a0c ((8:Int).toNat)=3∧p7 a1x ((8:Int).toNat)=false∧e8 a2i ((8:Int).toNat)=0∧e8 a0b ((8:Int).toNat)=0∧p7 y5 ((8:Int).toNat)=false∧e8 y4 ((8:Int).toNat) = -2∧e8 a30 ((8:Int).toNat)=2∧p7 a01 ((8:Int).toNat)=true∧IntKind.i64.wrap (9 - 1)=8:=⟨rfl,rfl,rfl,rfl,rfl,rfl,rfl,rfl,rfl⟩
theorem r10:e8 a0c ((9:Int).toNat)=3∧p7 a1x ((9:Int).toNat)=false∧e8 a2i ((9:Int).toNat)=0∧e8 a0b ((9:Int).toNat)=0∧p7 y5 ((9:Int).toNat)=false∧e8 y4 ((9:Int).toNat) = -2∧e8 a30 ((9:Int).toNat)=2∧p7 a01 ((9:Int).toNat)=true∧IntKind.i64.wrap (10 - 1)=9:=⟨rfl,rfl,rfl,rfl,rfl,rfl,rfl,rfl,rfl⟩
theorem r11:e8 a0c ((10:Int).toNat)=3∧p7 a1x ((10:Int).toNat)=false∧e8 a2i ((10:Int).toNat)=0∧e8 a0b ((10:Int).toNat)=1∧p7 y5 ((10:Int).toNat)=false∧e8 y4 ((10:Int).toNat) = -2∧e8 a30 ((10:Int).toNat)=2∧p7 a01 ((10:Int).toNat)=true∧IntKind.i64.wrap (11 - 1)=10:=⟨rfl,rfl,rfl,rfl,rfl,rfl,rfl,rfl,rfl⟩
theorem r12:e8 a0c ((11:Int).toNat)=3∧p7 a1x ((11:Int).toNat)=false∧e8 a2i ((11:Int).toNat)=0∧e8 a0b ((11:Int).toNat)=0∧p7 y5 ((11:Int).toNat)=false∧e8 y4 ((11:Int).toNat) = -2∧e8 a30 ((11:Int).toNat)=3∧p7 a01 ((11:Int).toNat)=true∧IntKind.i64.wrap (12 - 1)=11:=⟨rfl,rfl,rfl,rfl,rfl,rfl,rfl,rfl,rfl⟩
theorem r13:e8 a0c ((12:Int).toNat)=3∧p7 a1x ((12:Int).toNat)=false∧e8 a2i ((12:Int).toNat)=0∧e8 a0b ((12:Int).toNat)=0∧p7 y5 ((12:Int).toNat)=false∧e8 y4 ((12:Int).toNat) = -2∧e8 a30 ((12:Int).toNat)=3∧p7 a01 ((12:Int).toNat)=true∧IntKind.i64.wrap (13 - 1)=12:=⟨rfl,rfl,rfl,rfl,rfl,rfl,rfl,rfl,rfl⟩
theorem r14:e8 a0c ((13:Int).toNat)=3∧p7 a1x ((13:Int).toNat)=false∧e8 a2i ((13:Int).toNat)=0∧e8 a0b ((13:Int).toNat)=1∧p7 y5 ((13:Int).toNat)=false∧e8 y4 ((13:Int).toNat) = -2∧e8 a30 ((13:Int).toNat)=3∧p7 a01 ((13:Int).toNat)=true∧IntKind.i64.wrap (14 - 1)=13:=⟨rfl,rfl,rfl,rfl,rfl,rfl,rfl,rfl,rfl⟩
theorem r15:e8 a0c ((14:Int).toNat)=3∧p7 a1x ((14:Int).toNat)=false∧e8 a2i ((14:Int).toNat)=0∧e8 a0b ((14:Int).toNat) = -1∧p7 y5 ((14:Int).toNat)=false∧e8 y4 ((14:Int).toNat) = -2∧e8 a30 ((14:Int).toNat)=3∧p7 a01 ((14:Int).toNat)=true∧IntKind.i64.wrap (15 - 1)=14:=⟨rfl,rfl,rfl,rfl,rfl,rfl,rfl,rfl,rfl⟩
theorem r16:e8 a0c ((15:Int).toNat) = -1∧p7 a1x ((15:Int).toNat)=false∧e8 a2i ((15:Int).toNat)=0∧e8 a0b ((15:Int).toNat)=0∧p7 y5 ((15:Int).toNat)=false∧e8 y4 ((15:Int).toNat) = -2∧e8 a30 ((15:Int).toNat)=0∧p7 a01 ((15:Int).toNat)=false∧IntKind.i64.wrap (16 - 1)=15:=⟨rfl,rfl,rfl,rfl,rfl,rfl,rfl,rfl,rfl⟩
theorem r17:e8 a0c ((16:Int).toNat) = -1∧p7 a1x ((16:Int).toNat)=false∧e8 a2i ((16:Int).toNat)=0∧e8 a0b ((16:Int).toNat)=0∧p7 y5 ((16:Int).toNat)=false∧e8 y4 ((16:Int).toNat) = -2∧e8 a30 ((16:Int).toNat)=0∧p7 a01 ((16:Int).toNat)=false∧IntKind.i64.wrap (17 - 1)=16:=⟨rfl,rfl,rfl,rfl,rfl,rfl,rfl,rfl,rfl⟩
theorem c2i {k:Int} (h1:1≤k) (h2:k≤17):k=1∨k=2∨k=3∨k=4∨k=5∨k=6∨k=7∨k=8∨k=9∨k=10∨k=11∨k=12∨k=13∨k=14∨k=15∨k=16∨k=17:=by omega
def d3n (e:Ev):Prop:=n7 (({ g:=true,calls:=[kI1 152 a2t] }:Kit)).tab Tryz.f123 [a5y e] [tbl] (j9 (.b (q7 e)))
theorem d0s (e:Ev):d3n e=(((decide (e.k < (1:Int)) || decide (e.k > (17:Int)) || decide (e.ix < (0:Int)) || !a2t e.ag == (e.k == (4:Int)))=true→false=q7 e)∧((decide (e.k < (1:Int)) || decide (e.k > (17:Int)) || decide (e.ix < (0:Int)) || !a2t e.ag == (e.k == (4:Int)))=false→((0:Int)≤IntKind.i64.wrap (e.k - (1:Int))∧IntKind.i64.wrap (e.k - (1:Int)) < (↑(17:Nat):Int))∧(IntKind.i64.wrap (e.k - (1:Int))).toNat < (17:Nat)∧((decide (e.ob < (0:Int)) || e8 a0c (IntKind.i64.wrap (e.k - (1:Int))).toNat != (-1:Int) && decide (e.ob > e8 a0c (IntKind.i64.wrap (e.k - (1:Int))).toNat) || decide (e.rd < e8 a2i (IntKind.i64.wrap (e.k - (1:Int))).toNat) || e8 a0b (IntKind.i64.wrap (e.k - (1:Int))).toNat != (-1:Int) && decide (e.rd > e8 a0b (IntKind.i64.wrap (e.k - (1:Int))).toNat))=true→false=q7 e)∧((decide (e.ob < (0:Int)) || e8 a0c (IntKind.i64.wrap (e.k - (1:Int))).toNat != (-1:Int) && decide (e.ob > e8 a0c (IntKind.i64.wrap (e.k - (1:Int))).toNat) || decide (e.rd < e8 a2i (IntKind.i64.wrap (e.k - (1:Int))).toNat) || e8 a0b (IntKind.i64.wrap (e.k - (1:Int))).toNat != (-1:Int) && decide (e.rd > e8 a0b (IntKind.i64.wrap (e.k - (1:Int))).toNat))=false→((p7 a1x (IntKind.i64.wrap (e.k - (1:Int))).toNat && (decide (e.od < (0:Int)) || decide (e.od > (2:Int))) || !p7 a1x (IntKind.i64.wrap (e.k - (1:Int))).toNat && e.od != (0:Int))=true →
 false=q7 e)∧((p7 a1x (IntKind.i64.wrap (e.k - (1:Int))).toNat && (decide (e.od < (0:Int)) || decide (e.od > (2:Int))) || !p7 a1x (IntKind.i64.wrap (e.k - (1:Int))).toNat && e.od != (0:Int))=false→((p7 y5 (IntKind.i64.wrap (e.k - (1:Int))).toNat && (decide (e.wr < (-2147483648:Int)) || decide (e.wr > (2147483647:Int))) || !p7 y5 (IntKind.i64.wrap (e.k - (1:Int))).toNat && e.wr != (0:Int))=true→false=q7 e)∧((p7 y5 (IntKind.i64.wrap (e.k - (1:Int))).toNat && (decide (e.wr < (-2147483648:Int)) || decide (e.wr > (2147483647:Int))) || !p7 y5 (IntKind.i64.wrap (e.k - (1:Int))).toNat && e.wr != (0:Int))=false→((e8 y4 (IntKind.i64.wrap (e.k - (1:Int))).toNat == (-2:Int) && e.en != (-1:Int) || decide (e.en < e8 y4 (IntKind.i64.wrap (e.k - (1:Int))).toNat))=true→false=q7 e)∧((e8 y4 (IntKind.i64.wrap (e.k - (1:Int))).toNat == (-2:Int) && e.en != (-1:Int) || decide (e.en < e8 y4 (IntKind.i64.wrap (e.k - (1:Int))).toNat))=false→((e.k == (12:Int))=true→(decide (e.mu ≥ (0:Int)) && decide (e.mu < (4:Int)))=q7 e)∧((e.k == (12:Int))=false→(e.mu == (-1:Int))=q7 e))))))):=by kernel_rfl
theorem v123 (e:Ev) :d3n e:=by
 rw[d0s]
 simp only[i5,a2t]
 obtain⟨ag,ix,k,ob,mu,en,od,rd,wr⟩:=e
 dsimp only
 refine⟨fun h=>?_,fun h=>?_⟩
 ·simp only[q7]
  grind
 ·have hk:1≤k∧k≤17:=by grind
  rcases c2i hk.1 hk.2 with rfl | rfl | rfl | rfl | rfl | rfl | rfl | rfl | rfl | rfl | rfl | rfl | rfl | rfl | rfl | rfl | rfl
  ·obtain⟨a1,a2,a3,a4,a5,a6,a7,a8,a9⟩:=r1
   simp only[a9,a1,a2,a3,a4,a5,a6,q7,a2t,a1p,a3m,a3c,t7,a1e,a4m,a05,a0d] at h ⊢
   refine⟨by decide,by decide,?_⟩
   grind
  ·obtain⟨a1,a2,a3,a4,a5,a6,a7,a8,a9⟩:=r2
   simp only[a9,a1,a2,a3,a4,a5,a6,q7,a2t,a1p,a3m,a3c,t7,a1e,a4m,a05,a0d] at h ⊢
   refine⟨by decide,by decide,?_⟩
   grind
  ·obtain⟨a1,a2,a3,a4,a5,a6,a7,a8,a9⟩:=r3
   simp only[a9,a1,a2,a3,a4,a5,a6,q7,a2t,a1p,a3m,a3c,t7,a1e,a4m,a05,a0d] at h ⊢
   refine⟨by decide,by decide,?_⟩
   grind
  ·obtain⟨a1,a2,a3,a4,a5,a6,a7,a8,a9⟩:=r4
   simp only[a9,a1,a2,a3,a4,a5,a6,q7,a2t,a1p,a3m,a3c,t7,a1e,a4m,a05,a0d] at h ⊢
   refine⟨by decide,by decide,?_⟩
   grind
  ·obtain⟨a1,a2,a3,a4,a5,a6,a7,a8,a9⟩:=r5
   simp only[a9,a1,a2,a3,a4,a5,a6,q7,a2t,a1p,a3m,a3c,t7,a1e,a4m,a05,a0d] at h ⊢
   refine⟨by decide,by decide,?_⟩
   grind
  ·obtain⟨a1,a2,a3,a4,a5,a6,a7,a8,a9⟩:=r6
   simp only[a9,a1,a2,a3,a4,a5,a6,q7,a2t,a1p,a3m,a3c,t7,a1e,a4m,a05,a0d] at h ⊢
   refine⟨by decide,by decide,?_⟩
   grind
  ·obtain⟨a1,a2,a3,a4,a5,a6,a7,a8,a9⟩:=r7
   simp only[a9,a1,a2,a3,a4,a5,a6,q7,a2t,a1p,a3m,a3c,t7,a1e,a4m,a05,a0d] at h ⊢
   refine⟨by decide,by decide,?_⟩
   grind
  ·obtain⟨a1,a2,a3,a4,a5,a6,a7,a8,a9⟩:=r8
   simp only[a9,a1,a2,a3,a4,a5,a6,q7,a2t,a1p,a3m,a3c,t7,a1e,a4m,a05,a0d] at h ⊢
   refine⟨by decide,by decide,?_⟩
   grind
  ·obtain⟨a1,a2,a3,a4,a5,a6,a7,a8,a9⟩:=r9
   simp only[a9,a1,a2,a3,a4,a5,a6,q7,a2t,a1p,a3m,a3c,t7,a1e,a4m,a05,a0d] at h ⊢
   refine⟨by decide,by decide,?_⟩
   grind
  ·obtain⟨a1,a2,a3,a4,a5,a6,a7,a8,a9⟩:=r10
   simp only[a9,a1,a2,a3,a4,a5,a6,q7,a2t,a1p,a3m,a3c,t7,a1e,a4m,a05,a0d] at h ⊢
   refine⟨by decide,by decide,?_⟩
   grind
  ·obtain⟨a1,a2,a3,a4,a5,a6,a7,a8,a9⟩:=r11
   simp only[a9,a1,a2,a3,a4,a5,a6,q7,a2t,a1p,a3m,a3c,t7,a1e,a4m,a05,a0d] at h ⊢
   refine⟨by decide,by decide,?_⟩
   grind
  ·obtain⟨a1,a2,a3,a4,a5,a6,a7,a8,a9⟩:=r12
   simp only[a9,a1,a2,a3,a4,a5,a6,q7,a2t,a1p,a3m,a3c,t7,a1e,a4m,a05,a0d] at h ⊢
   refine⟨by decide,by decide,?_⟩
   grind
  ·obtain⟨a1,a2,a3,a4,a5,a6,a7,a8,a9⟩:=r13
   simp only[a9,a1,a2,a3,a4,a5,a6,q7,a2t,a1p,a3m,a3c,t7,a1e,a4m,a05,a0d] at h ⊢
   refine⟨by decide,by decide,?_⟩
   grind
  ·obtain⟨a1,a2,a3,a4,a5,a6,a7,a8,a9⟩:=r14
   simp only[a9,a1,a2,a3,a4,a5,a6,q7,a2t,a1p,a3m,a3c,t7,a1e,a4m,a05,a0d] at h ⊢
   refine⟨by decide,by decide,?_⟩
   grind
  ·obtain⟨a1,a2,a3,a4,a5,a6,a7,a8,a9⟩:=r15
   simp only[a9,a1,a2,a3,a4,a5,a6,q7,a2t,a1p,a3m,a3c,t7,a1e,a4m,a05,a0d] at h ⊢
   refine⟨by decide,by decide,?_⟩
   grind
  ·obtain⟨a1,a2,a3,a4,a5,a6,a7,a8,a9⟩:=r16
   simp only[a9,a1,a2,a3,a4,a5,a6,q7,a2t,a1p,a3m,a3c,t7,a1e,a4m,a05,a0d] at h ⊢
   refine⟨by decide,by decide,?_⟩
   grind
  ·obtain⟨a1,a2,a3,a4,a5,a6,a7,a8,a9⟩:=r17
   simp only[a9,a1,a2,a3,a4,a5,a6,q7,a2t,a1p,a3m,a3c,t7,a1e,a4m,a05,a0d] at h ⊢
   refine⟨by decide,by decide,?_⟩
   grind
def kVE:Nat × (List MBlk→List SV→Option AR):=(123,o5 EL gbT [] [.lf .ev] (sE1 q7))
theorem n123 (nm:List (Option AV)):CallOk Tryz.prog GL 123 (o5 EL gbT nm [.lf .ev] (sE1 q7)):=a55 Tryz.func123 d7o fun av pre rv h=>by
 unfold sE1 at h; split at h <;> cases h
 exact⟨⟨rfl,fun t a e=>by cases e <;> exact z0h _ _⟩,fun hp=>⟨_,v123 _ ,rfl,(m6 (a1f (n152 _)) t8),t9⟩⟩
def rdE (e:Ev):Bool:=a05 e.k
def wrE (e:Ev):Bool:=e.k == 2 || e.k == 5
def a71 (e:Ev):Int:=bif e.k == 9 || e.k == 10 || e.k == 11 then e.ob else bif e.k == 12 then e.mu else -1
def a3r (e:Ev):Int:=bif e.k == 12 || e.k == 13 || e.k == 14 || e.k == 15 then e.ob else -1
def a97 (e:Ev):Int:=bif e.k == 9 || e.k == 10 || e.k == 11 then e.ob else e.mu
def a9j (a b:Ev):Bool:=(decide (a71 a ≥ 0) && a71 a == a71 b) || (decide (a3r a ≥ 0) && a3r a == a3r b)
theorem fo80:o6 Tryz.prog 80:=⟨Tryz.f80,Tryz.func80,by kernel_rfl,by kernel_rfl⟩
theorem fo81:o6 Tryz.prog 81:=⟨Tryz.f81,Tryz.func81,by kernel_rfl,by kernel_rfl⟩
theorem fo86:o6 Tryz.prog 86:=⟨Tryz.f86,Tryz.func86,by kernel_rfl,by kernel_rfl⟩
theorem fo84:o6 Tryz.prog 84:=⟨Tryz.f84,Tryz.func84,by kernel_rfl,by kernel_rfl⟩
theorem d8j:o6 Tryz.prog 113:=⟨Tryz.f113,Tryz.func113,by kernel_rfl,by kernel_rfl⟩
theorem d8i:o6 Tryz.prog 114:=⟨Tryz.f114,Tryz.func114,by kernel_rfl,by kernel_rfl⟩
theorem d9g:o6 Tryz.prog 139:=⟨Tryz.f139,Tryz.func139,by kernel_rfl,by kernel_rfl⟩
theorem d8t:o6 Tryz.prog 140:=⟨Tryz.f140,Tryz.func140,by kernel_rfl,by kernel_rfl⟩
theorem fo58:o6 Tryz.prog 58:=⟨Tryz.f58,Tryz.func58,by kernel_rfl,by kernel_rfl⟩
def q80D (e:Ev):Prop:=n7 (({}:Kit)).tab Tryz.f80 [a5y e] [] (j9 (.b (rdE e)))
theorem d4d (e:Ev):q80D e=((e.k == (1:Int) || e.k == (8:Int) || e.k == (5:Int) || e.k == (6:Int))=rdE e):=by kernel_rfl
theorem v80 (e:Ev) :q80D e:=by
 rw[d4d]
 first | rfl | (simp only[rdE,a05]; grind)
def q81D (e:Ev):Prop:=n7 (({}:Kit)).tab Tryz.f81 [a5y e] [] (j9 (.b (wrE e)))
theorem d5h (e:Ev):q81D e=((e.k == (2:Int) || e.k == (5:Int))=wrE e):=by kernel_rfl
theorem v81 (e:Ev) :q81D e:=by
 rw[d5h]
 first | rfl | (simp only[wrE,a05]; grind)
def q86D (e:Ev):Prop:=n7 (({}:Kit)).tab Tryz.f86 [a5y e] [] (j9 (.b (rdE e)))
theorem d71 (e:Ev):q86D e=((e.k == (1:Int) || e.k == (8:Int) || e.k == (5:Int) || e.k == (6:Int))=rdE e):=by kernel_rfl
theorem v86 (e:Ev) :q86D e:=by
 rw[d71]
 first | rfl | (simp only[rdE,a05]; grind)
def q84D (e:Ev):Prop:=n7 (({}:Kit)).tab Tryz.f84 [a5y e] [] (j9 (.b (wrE e)))
theorem d56 (e:Ev):q84D e=((e.k == (2:Int) || e.k == (5:Int))=wrE e):=by kernel_rfl
theorem v84 (e:Ev) :q84D e:=by
 rw[d56]
 first | rfl | (simp only[wrE,a05]; grind)
def d36 (e:Ev):Prop:=n7 (({}:Kit)).tab Tryz.f113 [a5y e] [] (j9 (.i .i64 (a71 e)))
theorem d22 (e:Ev):d36 e=(((e.k == (9:Int))=true→e.ob=a71 e)∧((e.k == (9:Int))=false→((e.k == (10:Int))=true→e.ob=a71 e)∧((e.k == (10:Int))=false→((e.k == (11:Int))=true→e.ob=a71 e)∧((e.k == (11:Int))=false→((e.k == (12:Int))=true→e.mu=a71 e)∧((e.k == (12:Int))=false→(-1:Int)=a71 e))))):=by kernel_rfl
theorem v113 (e:Ev) :d36 e:=by
 rw[d22]
 first | rfl | (simp only[a71,a05]; grind)
def d2z (e:Ev):Prop:=n7 (({}:Kit)).tab Tryz.f114 [a5y e] [] (j9 (.i .i64 (a3r e)))
theorem d0t (e:Ev):d2z e=(((e.k == (12:Int))=true→e.ob=a3r e)∧((e.k == (12:Int))=false→((e.k == (13:Int))=true→e.ob=a3r e)∧((e.k == (13:Int))=false→((e.k == (14:Int))=true→e.ob=a3r e)∧((e.k == (14:Int))=false→((e.k == (15:Int))=true→e.ob=a3r e)∧((e.k == (15:Int))=false→(-1:Int)=a3r e))))):=by kernel_rfl
theorem v114 (e:Ev) :d2z e:=by
 rw[d0t]
 first | rfl | (simp only[a3r,a05]; grind)
def d3z (e:Ev):Prop:=n7 (({}:Kit)).tab Tryz.f139 [a5y e] [] (j9 (.i .i64 (a97 e)))
theorem d1j (e:Ev):d3z e=(((e.k == (9:Int) || e.k == (10:Int) || e.k == (11:Int))=true→e.ob=a97 e)∧((e.k == (9:Int) || e.k == (10:Int) || e.k == (11:Int))=false→e.mu=a97 e)):=by kernel_rfl
theorem v139 (e:Ev) :d3z e:=by
 rw[d1j]
 first | rfl | (simp only[a97,a05]; grind)
def d2x (e:Ev):Prop:=n7 (({}:Kit)).tab Tryz.f140 [a5y e] [] (j9 (.i .i64 (a3r e)))
theorem d09 (e:Ev):d2x e=(((e.k == (12:Int) || e.k == (13:Int) || e.k == (14:Int) || e.k == (15:Int))=true→e.ob=a3r e)∧((e.k == (12:Int) || e.k == (13:Int) || e.k == (14:Int) || e.k == (15:Int))=false→(-1:Int)=a3r e)):=by kernel_rfl
theorem v140 (e:Ev) :d2x e:=by
 rw[d09]
 first | rfl | (simp only[a3r,a05]; grind)
def q58D (e d:Ev):Prop:=n7 (({ calls:=[d0p 113 a71,d0p 114 a3r] }:Kit)).tab Tryz.f58 [a5y e,a5y d] [] (j9 (.b (a9j e d)))
theorem d4u (e d:Ev):q58D e d=((decide (a71 e ≥ (0:Int)) && a71 e == a71 d || decide (a3r e ≥ (0:Int)) && a3r e == a3r d)=a9j e d):=by kernel_rfl
theorem v58 (e d:Ev) :q58D e d:=by
 rw[d4u]
 first | rfl | (simp only[a9j]; grind)
theorem n80 (nm:List (Option AV)):CallOk Tryz.prog [] 80 (o5 EL none nm [.lf .ev] (sE1 rdE)):=x4 Tryz.func80 fo80 fun av pre rv h=>by
 unfold sE1 at h; split at h <;> cases h
 exact⟨⟨rfl,fun t a e=>by cases e <;> exact z0h _ _⟩,fun hp=>⟨_,v80 _ ,rfl,t8,t9⟩⟩
theorem n81 (nm:List (Option AV)):CallOk Tryz.prog [] 81 (o5 EL none nm [.lf .ev] (sE1 wrE)):=x4 Tryz.func81 fo81 fun av pre rv h=>by
 unfold sE1 at h; split at h <;> cases h
 exact⟨⟨rfl,fun t a e=>by cases e <;> exact z0h _ _⟩,fun hp=>⟨_,v81 _ ,rfl,t8,t9⟩⟩
theorem n86 (nm:List (Option AV)):CallOk Tryz.prog [] 86 (o5 EL none nm [.lf .ev] (sE1 rdE)):=x4 Tryz.func86 fo86 fun av pre rv h=>by
 unfold sE1 at h; split at h <;> cases h
 exact⟨⟨rfl,fun t a e=>by cases e <;> exact z0h _ _⟩,fun hp=>⟨_,v86 _ ,rfl,t8,t9⟩⟩
theorem n84 (nm:List (Option AV)):CallOk Tryz.prog [] 84 (o5 EL none nm [.lf .ev] (sE1 wrE)):=x4 Tryz.func84 fo84 fun av pre rv h=>by
 unfold sE1 at h; split at h <;> cases h
 exact⟨⟨rfl,fun t a e=>by cases e <;> exact z0h _ _⟩,fun hp=>⟨_,v84 _ ,rfl,t8,t9⟩⟩
theorem n113 (nm:List (Option AV)):CallOk Tryz.prog [] 113 (o5 EL none nm [.lf .ev] (b75 a71)):=x4 Tryz.func113 d8j fun av pre rv h=>by
 unfold b75 at h; split at h <;> cases h
 exact⟨⟨rfl,fun t a e=>by cases e <;> exact z0h _ _⟩,fun hp=>⟨_,v113 _ ,rfl,t8,t9⟩⟩
theorem n114 (nm:List (Option AV)):CallOk Tryz.prog [] 114 (o5 EL none nm [.lf .ev] (b75 a3r)):=x4 Tryz.func114 d8i fun av pre rv h=>by
 unfold b75 at h; split at h <;> cases h
 exact⟨⟨rfl,fun t a e=>by cases e <;> exact z0h _ _⟩,fun hp=>⟨_,v114 _ ,rfl,t8,t9⟩⟩
theorem n139 (nm:List (Option AV)):CallOk Tryz.prog [] 139 (o5 EL none nm [.lf .ev] (b75 a97)):=x4 Tryz.func139 d9g fun av pre rv h=>by
 unfold b75 at h; split at h <;> cases h
 exact⟨⟨rfl,fun t a e=>by cases e <;> exact z0h _ _⟩,fun hp=>⟨_,v139 _ ,rfl,t8,t9⟩⟩
theorem n140 (nm:List (Option AV)):CallOk Tryz.prog [] 140 (o5 EL none nm [.lf .ev] (b75 a3r)):=x4 Tryz.func140 d8t fun av pre rv h=>by
 unfold b75 at h; split at h <;> cases h
 exact⟨⟨rfl,fun t a e=>by cases e <;> exact z0h _ _⟩,fun hp=>⟨_,v140 _ ,rfl,t8,t9⟩⟩
theorem n58 (nm:List (Option AV)):CallOk Tryz.prog [] 58 (o5 EL none nm [.lf .ev,.lf .ev] (sE2 a9j)):=x4 Tryz.func58 fo58 fun av pre rv h=>by
 unfold sE2 at h; split at h <;> cases h
 exact⟨⟨rfl,fun t a e=>by cases e <;> exact z0h _ _⟩,fun hp=>⟨_,v58 _ _ ,rfl,(m6 (n113 _) (m6 (n114 _) t8)),t9⟩⟩
end Go.Proofs.YtaeeaniofljmnaaGreatDoor

/-
  A part of the proof (G2).
-/
import Derived.Test.YtaeeaniofljmnaaGreatDoorG1
namespace Go.Proofs.YtaeeaniofljmnaaGreatDoor
set_option linter.unusedSimpArgs false
set_option linter.unusedVariables false
open Go Go.Proofs.YtaeeaniofljmnaaGreatDoor.Sx
set_option maxRecDepth 100000
theorem b9t {N:Int} {l:List Pq} {i:Nat} (h:i < l.length):(l.take (i + 1)).all (inR N)=((l.take i).all (inR N) && inR N (b6 (0,0) l i)):=by
 rw[a6f (0,0) h,List.all_append]; simp
theorem a8r {i n:Nat} (h:decide ((i:Int) < (n:Int))=true):i < n:=by simpa using h
theorem a8u {i n:Nat} (h:decide ((i:Int) < (n:Int))=false) (h2:i≤n):i=n:=by
 have:¬ (i:Int) < (n:Int):=z0m h
 omega
theorem bd {i n:Nat} (h:i < n):(0:Int)≤(i:Int)∧(i:Int) < (n:Int):=by omega
theorem d1c (N:Int) (l:List Pq):(n7 (tab [] [(0,.of (a6v N l 16))]) Tryz.f119 [rlV N 0 l] [arP l] (j9 (.b (d6 N l))))=(((decide (N < (0:Int)) || decide (N > (64:Int)))=true→false=d6 N l) ∧
 ((decide (N < (0:Int)) || decide (N > (64:Int)))=false →
 ∃(x:PUnit),
 (∃(x:Nat),(x≤l.length∧(List.take x l).all (inR N)=true)∧((0:Int)=(↑x:Int)∧True)∧True) ∧
 ∀(x_1:Nat),
 x_1≤l.length∧(List.take x_1 l).all (inR N)=true →
 (decide ((↑x_1:Int) < (↑l.length:Int))=true →
 ((0:Int)≤(↑x_1:Int)∧(↑x_1:Int) < (↑l.length:Int)) ∧
 x_1 < l.length ∧
 ((decide ((b6 ((0:Int),(0:Int)) l x_1).fst < (0:Int)) ||
 decide ((b6 ((0:Int),(0:Int)) l x_1).fst ≥ N) ||
 decide ((b6 ((0:Int),(0:Int)) l x_1).snd < (0:Int)) ||
 decide ((b6 ((0:Int),(0:Int)) l x_1).snd ≥ N)) =
 true →
 false=d6 N l) ∧
 ((decide ((b6 ((0:Int),(0:Int)) l x_1).fst < (0:Int)) ||
 decide ((b6 ((0:Int),(0:Int)) l x_1).fst ≥ N) ||
 decide ((b6 ((0:Int),(0:Int)) l x_1).snd < (0:Int)) ||
 decide ((b6 ((0:Int),(0:Int)) l x_1).snd ≥ N)) =
 false →
 ∃(x_2:Nat),
 (x_2≤l.length∧(List.take x_2 l).all (inR N)=true) ∧
 ((PLoop.of (a6v N l (16:Nat))).ann x).mu x_2 <
 ((PLoop.of (a6v N l (16:Nat))).ann x).mu x_1 ∧
 ((N=N∧l.length=l.length) ∧
 True ∧
 True ∧
 N=N ∧
 decide (N < (0:Int))=decide (N < (0:Int)) ∧
 decide (N < (0:Int))=decide (N < (0:Int)) ∧
 false=false ∧
 True ∧
 l.length=l.length ∧
 (↑l.length:Int)=(↑l.length:Int) ∧
 IntKind.i64.wrap ((↑x_1:Int) + (1:Int))=(↑x_2:Int)∧True) ∧
 (l.length=l.length ∧
 (∀(j:Nat),
 j < l.length →
 (b6 ((0:Int),(0:Int)) l j).fst =
 (b6 ((0:Int),(0:Int)) l j).fst) ∧
 (∀(j:Nat),
 j < l.length →
 (b6 ((0:Int),(0:Int)) l j).snd =
 (b6 ((0:Int),(0:Int)) l j).snd) ∧
 True) ∧
 (N=N∧l.length=l.length)∧True)) ∧
 (decide ((↑x_1:Int) < (↑l.length:Int))=false→true=d6 N l))):=by kernel_rfl
theorem v119 (N:Int) (l:List Pq) (hl:L9 l):n7 (tab [] [(0,.of (a6v N l 16))]) Tryz.f119 [rlV N 0 l] [arP l] (j9 (.b (d6 N l))):=by
 rw[d1c]
 simp only[eq_self,true_and,and_true,z0n,imp_self,l7,l8,g7,g9,PLoop.of,p9,a6v,b10,a6x,a54,b0h,b15,AV.len]
 refine⟨fun h=>?_,fun h=>⟨(),⟨0,by simp,rfl⟩,fun i hi=>⟨fun hlt=>?_,fun hlt=>?_⟩⟩⟩
 ·have:inB N=false:=by rw[inB,h]; rfl
  rw[d6,this]; rfl
 ·have hi2:=a8r hlt
  refine⟨bd hi2,hi2,fun hc=>?_,fun hc=>?_⟩
  ·have:inR N (b6 (0,0) l i)=false:=by rw[inR]; exact congrArg (!·) hc
   rw[d6]
   have h2:l.all (inR N)=false:=by
    rw[List.all_eq_false]
    exact⟨_,a7y hi2,by rw[this]; simp⟩
   rw[h2,Bool.and_false]
  ·have:inR N (b6 (0,0) l i)=true:=by rw[inR]; exact congrArg (!·) hc
   exact⟨i + 1,⟨hi2,by rw[b9t hi2,hi.2,this]; rfl⟩,by omega,b00 (by omega) hl⟩
 ·have hi2:=a8u hlt hi.1
  have h3:=hi.2
  rw[hi2,z3i] at h3
  have:inB N=true:=by rw[inB,h]; rfl
  rw[d6,h3,this]; rfl
theorem d0o (N:Int) (l:List Pq):(n7 (tab [] [(0,.of (a6v N l 3))]) Tryz.f103 [rlV N 0 l] [arP l] (j9 (.b (d6 N l))))=(((decide (N < (0:Int)) || decide (N > (64:Int)))=true→false=d6 N l) ∧
 ((decide (N < (0:Int)) || decide (N > (64:Int)))=false →
 ∃(x:PUnit),
 (∃(x:Nat),(x≤l.length∧(List.take x l).all (inR N)=true)∧((0:Int)=(↑x:Int)∧True)∧True) ∧
 ∀(x_1:Nat),
 x_1≤l.length∧(List.take x_1 l).all (inR N)=true →
 (decide ((↑x_1:Int) < (↑l.length:Int))=true →
 ((0:Int)≤(↑x_1:Int)∧(↑x_1:Int) < (↑l.length:Int)) ∧
 x_1 < l.length ∧
 ((0:Int)≤(↑x_1:Int)∧(↑x_1:Int) < (↑l.length:Int)) ∧
 x_1 < l.length ∧
 ((decide ((b6 ((0:Int),(0:Int)) l x_1).fst < (0:Int)) ||
 decide ((b6 ((0:Int),(0:Int)) l x_1).fst ≥ N) ||
 decide ((b6 ((0:Int),(0:Int)) l x_1).snd < (0:Int)) ||
 decide ((b6 ((0:Int),(0:Int)) l x_1).snd ≥ N)) =
 true →
 false=d6 N l) ∧
 ((decide ((b6 ((0:Int),(0:Int)) l x_1).fst < (0:Int)) ||
 decide ((b6 ((0:Int),(0:Int)) l x_1).fst ≥ N) ||
 decide ((b6 ((0:Int),(0:Int)) l x_1).snd < (0:Int)) ||
 decide ((b6 ((0:Int),(0:Int)) l x_1).snd ≥ N)) =
 false →
 ∃(x_2:Nat),
 (x_2≤l.length∧(List.take x_2 l).all (inR N)=true) ∧
 ((PLoop.of (a6v N l (3:Nat))).ann x).mu x_2 <
 ((PLoop.of (a6v N l (3:Nat))).ann x).mu x_1 ∧
 ((N=N∧l.length=l.length) ∧
 True ∧
 IntKind.i64.wrap ((↑x_1:Int) + (1:Int))=(↑x_2:Int) ∧
 True ∧
 N=N ∧
 decide (N < (0:Int))=decide (N < (0:Int)) ∧
 decide (N < (0:Int))=decide (N < (0:Int)) ∧
 false=false∧True) ∧
 (l.length=l.length ∧
 (∀(j:Nat),
 j < l.length →
 (b6 ((0:Int),(0:Int)) l j).fst =
 (b6 ((0:Int),(0:Int)) l j).fst) ∧
 (∀(j:Nat),
 j < l.length →
 (b6 ((0:Int),(0:Int)) l j).snd =
 (b6 ((0:Int),(0:Int)) l j).snd) ∧
 True) ∧
 (N=N∧l.length=l.length)∧True)) ∧
 (decide ((↑x_1:Int) < (↑l.length:Int))=false→true=d6 N l))):=by kernel_rfl
theorem v103 (N:Int) (l:List Pq) (hl:L9 l):n7 (tab [] [(0,.of (a6v N l 3))]) Tryz.f103 [rlV N 0 l] [arP l] (j9 (.b (d6 N l))):=by
 rw[d0o]
 simp only[eq_self,true_and,and_true,z0n,imp_self,l7,l8,g7,g9,PLoop.of,p9,a6v,b10,a6x,a54,b0h,b15,AV.len]
 refine⟨fun h=>?_,fun h=>⟨(),⟨0,by simp,rfl⟩,fun i hi=>⟨fun hlt=>?_,fun hlt=>?_⟩⟩⟩
 ·have:inB N=false:=by rw[inB,h]; rfl
  rw[d6,this]; rfl
 ·have hi2:=a8r hlt
  refine⟨bd hi2,hi2,bd hi2,hi2,fun hc=>?_,fun hc=>?_⟩
  ·have:inR N (b6 (0,0) l i)=false:=by rw[inR]; exact congrArg (!·) hc
   rw[d6]
   have h2:l.all (inR N)=false:=by
    rw[List.all_eq_false]
    exact⟨_,a7y hi2,by rw[this]; simp⟩
   rw[h2,Bool.and_false]
  ·have:inR N (b6 (0,0) l i)=true:=by rw[inR]; exact congrArg (!·) hc
   exact⟨i + 1,⟨hi2,by rw[b9t hi2,hi.2,this]; rfl⟩,by omega,b00 (by omega) hl⟩
 ·have hi2:=a8u hlt hi.1
  have h3:=hi.2
  rw[hi2,z3i] at h3
  have:inB N=true:=by rw[inB,h]; rfl
  rw[d6,h3,this]; rfl
theorem d2d (N:Int) (l:List Pq):(n7 (tab [] [(0,.of (b10 l 10 2))]) Tryz.f148 [rlV N 0 l] [arP l] (a7b (d5 l)))=(∃(x:PUnit),
 (∃(x:Nat),
 (x≤l.length∧True) ∧
 ((0:Int)=(↑x:Int)∧True)∧(∀(x_1 y:Int),false=d5 (List.take x l) x_1 y)∧True) ∧
 ∀(x_1:Nat),
 x_1≤l.length∧True →
 (decide ((↑x_1:Int) < (↑l.length:Int))=true →
 ((0:Int)≤(↑x_1:Int)∧(↑x_1:Int) < (↑l.length:Int)) ∧
 x_1 < l.length ∧
 ∃(x_2:Nat),
 (x_2≤l.length∧True) ∧
 ((PLoop.of (b10 l (10:Nat) (2:Nat))).ann x).mu x_2 <
 ((PLoop.of (b10 l (10:Nat) (2:Nat))).ann x).mu x_1 ∧
 ((N=N∧l.length=l.length) ∧
 True ∧
 True ∧
 True ∧
 True ∧
 True ∧
 l.length=l.length ∧
 (↑l.length:Int)=(↑l.length:Int) ∧
 IntKind.i64.wrap ((↑x_1:Int) + (1:Int))=(↑x_2:Int)∧True) ∧
 (l.length=l.length ∧
 (∀(j:Nat),
 j < l.length →
 (b6 ((0:Int),(0:Int)) l j).fst=(b6 ((0:Int),(0:Int)) l j).fst) ∧
 (∀(j:Nat),
 j < l.length →
 (b6 ((0:Int),(0:Int)) l j).snd=(b6 ((0:Int),(0:Int)) l j).snd) ∧
 True) ∧
 (N=N∧l.length=l.length) ∧
 (∀(x y:Int),
 (x == (b6 ((0:Int),(0:Int)) l x_1).fst &&
 y == (b6 ((0:Int),(0:Int)) l x_1).snd ||
 d5 (List.take x_1 l) x y) =
 d5 (List.take x_2 l) x y) ∧
 True) ∧
 (decide ((↑x_1:Int) < (↑l.length:Int))=false→∀(x y:Int),d5 (List.take x_1 l) x y=d5 l x y)):=by kernel_rfl
theorem v148 (N:Int) (l:List Pq) (hl:L9 l):n7 (tab [] [(0,.of (b10 l 10 2))]) Tryz.f148 [rlV N 0 l] [arP l] (a7b (d5 l)):=by
 rw[d2d]
 simp only[eq_self,true_and,and_true,z0n,imp_self,l7,l8,g7,g9,PLoop.of,p9,a6v,b10,a6x,a54,b0h,b15,AV.len]
 refine⟨(),⟨0,by simp,rfl,by simp⟩,fun i hi=>⟨fun hlt=>?_,fun hlt x y=>?_⟩⟩
 ·have hi2:=a8r hlt
  exact⟨bd hi2,hi2,i + 1,by omega,by omega,b00 (by omega) hl,fun x y=>(b0o hi2 x y).symm⟩
 ·rw[a8u hlt hi,z3i]
theorem d0a (n:Int) (f:Pf):(n7 (c1i [] [(0,.of (a6x n f 11)),(2,a54 n f 15)] 2 [.fresh 2 1 67 2]) Tryz.f147 [.i .i64 n,.mp 0] [.fmapp f] (a35 (a83 n (b7 n f).length) 67 (b7 n f).length (a0e (b7 n f))))=(∃(x:PUnit),
 (∃(x:Nat),
 (x≤n.toNat∧True) ∧
 ((0:Int)=(↑x:Int)∧True) ∧
 (n=n∧(0:Nat)=(b9 f n.toNat x).length) ∧
 ((0:Nat)=(b9 f n.toNat x).length ∧
 (b9 f n.toNat x).length=(0:Nat)∧(b9 f n.toNat x).length=(0:Nat)∧True) ∧
 True) ∧
 ∀(x_1:Nat),
 x_1≤n.toNat∧True →
 (decide ((↑x_1:Int) < n)=true →
 ∃(x_2:Nat),
 (∃(x:Nat),
 (x≤n.toNat∧x_2 < n.toNat) ∧
 ((0:Int)=(↑x:Int)∧True) ∧
 (n=n∧(b9 f n.toNat x_1).length=(b9 f n.toNat x_2 ++ d7 f x_2 x).length) ∧
 ((b9 f n.toNat x_1).length=(b9 f n.toNat x_2 ++ d7 f x_2 x).length ∧
 (∀(j:Nat),
 j < (b9 f n.toNat x_2 ++ d7 f x_2 x).length →
 (b6 ((0:Int),(0:Int)) (b9 f n.toNat x_1) j).fst =
 (b6 ((0:Int),(0:Int)) (b9 f n.toNat x_2 ++ d7 f x_2 x) j).fst) ∧
 (∀(j:Nat),
 j < (b9 f n.toNat x_2 ++ d7 f x_2 x).length →
 (b6 ((0:Int),(0:Int)) (b9 f n.toNat x_1) j).snd =
 (b6 ((0:Int),(0:Int)) (b9 f n.toNat x_2 ++ d7 f x_2 x) j).snd) ∧
 True) ∧
 True) ∧
 ∀(x_3:Nat),
 x_3≤n.toNat∧x_2 < n.toNat →
 (decide ((↑x_3:Int) < n)=true →
 (f (↑x_1:Int) (↑x_3:Int)=true →
 (b9 f n.toNat x_2 ++ d7 f x_2 x_3).length =
 (b9 f n.toNat x_2 ++ d7 f x_2 x_3).length ∧
 (1:Nat)=(1:Nat) ∧
 ((b9 f n.toNat x_2 ++ d7 f x_2 x_3).length + (1:Nat)) * (16:Nat) ≤
 (140737488355328:Nat) ∧
 (b9 f n.toNat x_2 ++ d7 f x_2 x_3).length + (1:Nat) ≤
 (9223372036854775807:Nat) ∧
 ∃(x:Nat),
 (x≤n.toNat∧x_2 < n.toNat) ∧
 ((a54 n f (15:Nat)).ann x_2).mu x < ((a54 n f (15:Nat)).ann x_2).mu x_3 ∧
 (n=n ∧
 True ∧
 True ∧
 True ∧
 (↑x_1:Int)=(↑x_1:Int) ∧
 n=n ∧
 (n=n∧True) ∧
 n=n ∧
 (↑x_1:Int)=(↑x_1:Int) ∧
 true=true ∧
 (↑x_1:Int)=(↑x_1:Int) ∧
 n=n ∧
 IntKind.i64.wrap ((↑x_3:Int) + (1:Int)) =
 (↑x:Int) ∧
 True) ∧
 (∀(x y:Int),f x y=f x y) ∧
 ((0:Int)=(0:Int)∧True) ∧
 (n=n ∧
 (b9 f n.toNat x_2 ++ d7 f x_2 x_3).length + (1:Nat) =
 (b9 f n.toNat x_2 ++ d7 f x_2 x).length) ∧
 ((b9 f n.toNat x_2 ++ d7 f x_2 x_3).length + (1:Nat) =
 (b9 f n.toNat x_2 ++ d7 f x_2 x).length ∧
 (∀(j:Nat),
 j < (b9 f n.toNat x_2 ++ d7 f x_2 x).length →
 (bif
 j.blt
 (b9 f n.toNat x_2 ++ d7 f x_2 x_3).length then
 (b6 ((0:Int),(0:Int))
 (b9 f n.toNat x_2 ++ d7 f x_2 x_3) j).fst
 else
 e8 [(↑x_1:Int)]
 (j - (b9 f n.toNat x_2 ++ d7 f x_2 x_3).length)) =
 (b6 ((0:Int),(0:Int))
 (b9 f n.toNat x_2 ++ d7 f x_2 x) j).fst) ∧
 (∀(j:Nat),
 j < (b9 f n.toNat x_2 ++ d7 f x_2 x).length →
 (bif
 j.blt
 (b9 f n.toNat x_2 ++ d7 f x_2 x_3).length then
 (b6 ((0:Int),(0:Int))
 (b9 f n.toNat x_2 ++ d7 f x_2 x_3) j).snd
 else
 e8 [(↑x_3:Int)]
 (j -
 (b9 f n.toNat x_2 ++ d7 f x_2 x_3).length)) =
 (b6 ((0:Int),(0:Int))
 (b9 f n.toNat x_2 ++ d7 f x_2 x) j).snd) ∧
 True) ∧
 True) ∧
 (f (↑x_1:Int) (↑x_3:Int)=false →
 ∃(x:Nat),
 (x≤n.toNat∧x_2 < n.toNat) ∧
 ((a54 n f (15:Nat)).ann x_2).mu x < ((a54 n f (15:Nat)).ann x_2).mu x_3 ∧
 (n=n ∧
 True ∧
 True ∧
 True ∧
 (↑x_1:Int)=(↑x_1:Int) ∧
 n=n ∧
 (n=n∧True) ∧
 n=n ∧
 (↑x_1:Int)=(↑x_1:Int) ∧
 true=true ∧
 (↑x_1:Int)=(↑x_1:Int) ∧
 n=n ∧
 IntKind.i64.wrap ((↑x_3:Int) + (1:Int))=(↑x:Int) ∧
 True) ∧
 (∀(x y:Int),f x y=f x y) ∧
 ((0:Int)=(0:Int)∧True) ∧
 (n=n ∧
 (b9 f n.toNat x_2 ++ d7 f x_2 x_3).length =
 (b9 f n.toNat x_2 ++ d7 f x_2 x).length) ∧
 ((b9 f n.toNat x_2 ++ d7 f x_2 x_3).length =
 (b9 f n.toNat x_2 ++ d7 f x_2 x).length ∧
 (∀(j:Nat),
 j < (b9 f n.toNat x_2 ++ d7 f x_2 x).length →
 (b6 ((0:Int),(0:Int)) (b9 f n.toNat x_2 ++ d7 f x_2 x_3)
 j).fst =
 (b6 ((0:Int),(0:Int)) (b9 f n.toNat x_2 ++ d7 f x_2 x)
 j).fst) ∧
 (∀(j:Nat),
 j < (b9 f n.toNat x_2 ++ d7 f x_2 x).length →
 (b6 ((0:Int),(0:Int))
 (b9 f n.toNat x_2 ++ d7 f x_2 x_3) j).snd =
 (b6 ((0:Int),(0:Int))
 (b9 f n.toNat x_2 ++ d7 f x_2 x) j).snd) ∧
 True) ∧
 True)) ∧
 (decide ((↑x_3:Int) < n)=false →
 ∃(x_4:Nat),
 (x_4≤n.toNat∧True) ∧
 ((PLoop.of (a6x n f (11:Nat))).ann x).mu x_4 <
 ((PLoop.of (a6x n f (11:Nat))).ann x).mu x_1 ∧
 (n=n ∧
 True ∧
 True ∧
 True ∧
 n=n ∧
 (n=n∧True) ∧
 n=n∧IntKind.i64.wrap ((↑x_1:Int) + (1:Int))=(↑x_4:Int)∧True) ∧
 (∀(x y:Int),f x y=f x y) ∧
 ((0:Int)=(0:Int)∧True) ∧
 (n=n ∧
 (b9 f n.toNat x_2 ++ d7 f x_2 x_3).length=(b9 f n.toNat x_4).length) ∧
 ((b9 f n.toNat x_2 ++ d7 f x_2 x_3).length=(b9 f n.toNat x_4).length ∧
 (∀(j:Nat),
 j < (b9 f n.toNat x_4).length →
 (b6 ((0:Int),(0:Int)) (b9 f n.toNat x_2 ++ d7 f x_2 x_3)
 j).fst =
 (b6 ((0:Int),(0:Int)) (b9 f n.toNat x_4) j).fst) ∧
 (∀(j:Nat),
 j < (b9 f n.toNat x_4).length →
 (b6 ((0:Int),(0:Int)) (b9 f n.toNat x_2 ++ d7 f x_2 x_3)
 j).snd =
 (b6 ((0:Int),(0:Int)) (b9 f n.toNat x_4) j).snd) ∧
 True) ∧
 True)) ∧
 (decide ((↑x_1:Int) < n)=false →
 (b9 f n.toNat x_1).length=(b7 n f).length ∧
 ((∀(j:Nat),
 j < (b7 n f).length →
 (b6 ((0:Int),(0:Int)) (b9 f n.toNat x_1) j).fst =
 (b6 ((0:Int),(0:Int)) (b7 n f) j).fst) ∧
 (∀(j:Nat),
 j < (b7 n f).length →
 (b6 ((0:Int),(0:Int)) (b9 f n.toNat x_1) j).snd =
 (b6 ((0:Int),(0:Int)) (b7 n f) j).snd) ∧
 True) ∧
 n=n∧(b9 f n.toNat x_1).length=(b7 n f).length∧True)):=by kernel_rfl
theorem v147 (n:Int) (f:Pf) (hn:0≤n∧n≤64):n7 (c1i [] [(0,.of (a6x n f 11)),(2,a54 n f 15)] 2 [.fresh 2 1 67 2]) Tryz.f147 [.i .i64 n,.mp 0] [.fmapp f] (a35 (a83 n (b7 n f).length) 67 (b7 n f).length (a0e (b7 n f))):=by
 rw[d0a]
 have hn0:=hn.1
 have hn1:=hn.2
 have hN:n.toNat≤64:=by omega
 have hlen:∀ a b,a < n.toNat→b≤n.toNat→(b9 f n.toNat a ++ d7 f a b).length≤8192:=fun a b ha hb=>by
  have h1:=a27 f n.toNat a
  have h2:=a7e f a b
  have h3:a * n.toNat≤64 * 64:=z2i (by omega) hN
  rw[z0x]; omega
 simp only[eq_self,true_and,and_true,z0n,imp_self,l7,l8,g7,g9,PLoop.of,p9,a6v,b10,a6x,a54,b0h,b15,AV.len]
 refine⟨(),⟨0,by simp,rfl,?_⟩,fun a ha=>⟨fun hlt=>⟨a,⟨0,?_⟩,fun b hb=>⟨fun hlb=>⟨fun hf=>?_,fun hf=>?_⟩,fun hlb=>?_⟩⟩,fun hlt=>?_⟩⟩
 ·simp[a1w]
 ·have ha2:a < n.toNat:=by have:=z0e hlt; omega
  simp[a33,ha2]
 ·have hb2:b < n.toNat:=by have:=z0e hlb; omega
  have h1:=hlen a b hb.2 hb.1
  have e:d7 f a (b + 1)=d7 f a b ++ [((a:Int),(b:Int))]:=by rw[y3,if_pos hf]
  have e2:b9 f n.toNat a ++ d7 f a (b + 1)=(b9 f n.toNat a ++ d7 f a b) ++ [((a:Int),(b:Int))]:=by rw[e,z1w]
  refine⟨by omega,by omega,b + 1,⟨by omega,hb.2⟩,by omega,wrS (n:=n.toNat) hb2 (by omega),?_⟩
  rw[e2]
  have e3:(b9 f n.toNat a ++ d7 f a b ++ [((a:Int),(b:Int))]).length=(b9 f n.toNat a ++ d7 f a b).length + 1:=by rw[z0x (bs:=[((a:Int),(b:Int))])]; rfl
  exact⟨e3.symm,e3.symm,ap1 (·.1) _ _,ap1 (·.2) _ _⟩
 ·have hb2:b < n.toNat:=by have:=z0e hlb; omega
  have e:d7 f a (b + 1)=d7 f a b:=by rw[y3,if_neg (by rw[hf]; simp),z1f]
  refine⟨b + 1,⟨by omega,hb.2⟩,by omega,wrS (n:=n.toNat) hb2 (by omega),?_⟩
  rw[e]
  simp
 ·have hb2:b=n.toNat:=by have:=z0m hlb; omega
  have e:b9 f n.toNat (a + 1)=b9 f n.toNat a ++ d7 f a b:=by rw[a0r,hb2]
  refine⟨a + 1,by omega,by omega,wrS (n:=n.toNat) hb.2 (by omega),?_⟩
  rw[e]
  simp
 ·have ha2:a=n.toNat:=by have:=z0m hlt; omega
  subst ha2
  simp[b7]
theorem ixw {a b:Nat} {N:Int} (ha:(a:Int) < N) (hb:(b:Int) < N) (hN:N≤64):IntKind.i64.wrap (IntKind.i64.wrap ((a:Int) * N) + (b:Int))=((a * N.toNat + b:Nat):Int):=by
 obtain⟨n,rfl⟩:=z1q (show 0≤N by omega)
 have h1:a * n≤64 * 64:=z2i (by omega) (by omega)
 have h2:(a:Int) * (n:Int)=((a * n:Nat):Int):=by push_cast; rfl
 have h3:((a * n:Nat):Int)≤4096:=by omega
 rw[h2,a2x (n:=((a * n:Nat):Int)) (by omega) (by omega),a2x (by omega) (by omega)]
 simp
theorem ixwI {a b:Int} {N:Int} (ha0:0≤a) (hb0:0≤b) (ha:a < N) (hb:b < N) (hN:N≤64):IntKind.i64.wrap (IntKind.i64.wrap (a * N) + b)=((a.toNat * N.toNat + b.toNat:Nat):Int):=by
 obtain⟨x,rfl⟩:=z1q ha0
 obtain⟨y,rfl⟩:=z1q hb0
 exact ixw ha hb hN
theorem sqw {N:Int} (h0:0≤N) (hN:N≤64):IntKind.i64.wrap (N * N)=((N.toNat * N.toNat:Nat):Int):=by
 obtain⟨n,rfl⟩:=z1q h0
 have h1:n * n≤64 * 64:=z2i (by omega) (by omega)
 have h2:(n:Int) * (n:Int)=((n * n:Nat):Int):=by push_cast; rfl
 rw[h2,a2x (by omega) (by omega)]
 simp
theorem c22 {n:Nat} {h:List Bool} {a b:Nat}:m7 n h a b=b6 false h (a * n + b):=by
 unfold m7
 have:((a:Int) * n + b).toNat=a * n + b:=by
  have:(a:Int) * n + b=((a * n + b:Nat):Int):=by push_cast; rfl
  rw[this]; rfl
 rw[this]
theorem c9e {N:Int} {l:List Pq} (hv:d6 N l=true) {i:Nat} (hi:i < l.length):∀ j,j < N.toNat * N.toNat→(bif Nat.beq j ((b6 (0,0) l i).1.toNat * N.toNat + (b6 (0,0) l i).2.toNat) then true else b6 false (q8 N.toNat (d5 (l.take i))) j)=b6 false (q8 N.toNat (d5 (l.take (i + 1)))) j:=fun j hj=>by
 obtain⟨h1,h2,h3⟩:=w5.1 hv
 obtain⟨q1,q2,q3,q4⟩:=h3 _ (a7y hi)
 rw[z5 hj,z5 hj,b0o hi]
 generalize b6 (0,0) l i=p at q1 q2 q3 q4 ⊢
 obtain⟨x,y⟩:=p
 simp only at q1 q2 q3 q4 ⊢
 obtain⟨x,rfl⟩:=z1q q1
 obtain⟨y,rfl⟩:=z1q q3
 have hy:y < N.toNat:=by omega
 simp only[z2g]
 by_cases e:j=x * N.toNat + y
 ·subst e
  rw[c2k,z0g,c19 hy,c11 hy]
  simp
 ·rw[c35 e,z0l]
  have:¬ (j / N.toNat=x∧j % N.toNat=y):=fun⟨e1,e2⟩=>e (by
   have:=Nat.div_add_mod j N.toNat
   rw[e1,e2,Nat.mul_comm] at this
   exact this.symm)
  have h4:((((j / N.toNat:Nat):Int) == (x:Int)) && (((j % N.toNat:Nat):Int) == (y:Int)))=false:=by
   rw[z0w]
   intro h
   simp only[z0d,beq_iff_eq] at h
   exact this ⟨by omega,by omega⟩
  rw[h4,Bool.false_or]
theorem d21 (N:Int) (l:List Pq):(n7 (tab [] [(0,.of (b0h N l 4 3))]) Tryz.f149 [rlV N 0 l] [arP l] (a35 (.sl 0 (q8 N.toNat (d5 l)).length) 4 (q8 N.toNat (d5 l)).length (a4j (q8 N.toNat (d5 l)))))=((0:Int)≤IntKind.i64.wrap (N * N) ∧
 IntKind.i64.wrap (N * N)=IntKind.i64.wrap (N * N) ∧
 (↑(1:Nat):Int) * IntKind.i64.wrap (N * N)≤(281474976710656:Int) ∧
 IntKind.i64.wrap (N * N)≤(9223372036854775807:Int) ∧
 ∃(x:PUnit),
 (∃(x:Nat),
 (x≤l.length∧True) ∧
 ((0:Int)=(↑x:Int)∧True) ∧
 ((IntKind.i64.wrap (N * N)).toNat=N.toNat * N.toNat ∧
 (∀(j:Nat),
 j < N.toNat * N.toNat→false=b6 false (q8 N.toNat (d5 (List.take x l))) j) ∧
 True) ∧
 True) ∧
 ∀(x_1:Nat),
 x_1≤l.length∧True →
 (decide ((↑x_1:Int) < (↑l.length:Int))=true →
 ((0:Int)≤(↑x_1:Int)∧(↑x_1:Int) < (↑l.length:Int)) ∧
 x_1 < l.length ∧
 ((0:Int)≤(↑x_1:Int)∧(↑x_1:Int) < (↑l.length:Int)) ∧
 x_1 < l.length ∧
 ((0:Int) ≤
 IntKind.i64.wrap
 (IntKind.i64.wrap ((b6 ((0:Int),(0:Int)) l x_1).fst * N) +
 (b6 ((0:Int),(0:Int)) l x_1).snd) ∧
 IntKind.i64.wrap
 (IntKind.i64.wrap ((b6 ((0:Int),(0:Int)) l x_1).fst * N) +
 (b6 ((0:Int),(0:Int)) l x_1).snd) <
 (↑(IntKind.i64.wrap (N * N)).toNat:Int)) ∧
 (IntKind.i64.wrap
 (IntKind.i64.wrap ((b6 ((0:Int),(0:Int)) l x_1).fst * N) +
 (b6 ((0:Int),(0:Int)) l x_1).snd)).toNat <
 N.toNat * N.toNat ∧
 ∃(x_2:Nat),
 (x_2≤l.length∧True) ∧
 ((PLoop.of (b0h N l (4:Nat) (3:Nat))).ann x).mu x_2 <
 ((PLoop.of (b0h N l (4:Nat) (3:Nat))).ann x).mu x_1 ∧
 ((N=N∧l.length=l.length) ∧
 True ∧
 (0:Nat)=(0:Nat) ∧
 (IntKind.i64.wrap (N * N)).toNat=(IntKind.i64.wrap (N * N)).toNat ∧
 IntKind.i64.wrap ((↑x_1:Int) + (1:Int))=(↑x_2:Int) ∧
 True ∧
 N=N ∧
 True ∧
 N=N ∧
 IntKind.i64.wrap (N * N)=IntKind.i64.wrap (N * N) ∧
 (IntKind.i64.wrap (N * N)).toNat =
 (IntKind.i64.wrap (N * N)).toNat ∧
 True) ∧
 (l.length=l.length ∧
 (∀(j:Nat),
 j < l.length →
 (b6 ((0:Int),(0:Int)) l j).fst =
 (b6 ((0:Int),(0:Int)) l j).fst) ∧
 (∀(j:Nat),
 j < l.length →
 (b6 ((0:Int),(0:Int)) l j).snd =
 (b6 ((0:Int),(0:Int)) l j).snd) ∧
 True) ∧
 (N=N∧l.length=l.length) ∧
 ((0:Nat)=(0:Nat)∧True∧True) ∧
 (N.toNat * N.toNat=N.toNat * N.toNat ∧
 (∀(j:Nat),
 j < N.toNat * N.toNat →
 (bif
 j.beq
 (IntKind.i64.wrap
 (IntKind.i64.wrap
 ((b6 ((0:Int),(0:Int)) l x_1).fst * N) +
 (b6 ((0:Int),(0:Int)) l
 x_1).snd)).toNat then
 true
 else b6 false (q8 N.toNat (d5 (List.take x_1 l))) j) =
 b6 false (q8 N.toNat (d5 (List.take x_2 l))) j) ∧
 True) ∧
 True) ∧
 (decide ((↑x_1:Int) < (↑l.length:Int))=false →
 N.toNat * N.toNat=(q8 N.toNat (d5 l)).length ∧
 ((∀(j:Nat),
 j < (q8 N.toNat (d5 l)).length →
 b6 false (q8 N.toNat (d5 (List.take x_1 l))) j =
 b6 false (q8 N.toNat (d5 l)) j) ∧
 True) ∧
 (IntKind.i64.wrap (N * N)).toNat=(q8 N.toNat (d5 l)).length)):=by kernel_rfl
theorem v149 (N:Int) (l:List Pq) (hv:d6 N l=true) (hl:L9 l):n7 (tab [] [(0,.of (b0h N l 4 3))]) Tryz.f149 [rlV N 0 l] [arP l] (a35 (.sl 0 (q8 N.toNat (d5 l)).length) 4 (q8 N.toNat (d5 l)).length (a4j (q8 N.toNat (d5 l)))):=by
 rw[d21]
 obtain⟨h1,h2,h3⟩:=w5.1 hv
 have hs:=sqw h1 h2
 have hb:N.toNat * N.toNat≤4096:=c5u (by omega)
 simp only[eq_self,true_and,and_true,z0n,imp_self,l7,l8,g7,g9,PLoop.of,p9,a6v,b10,a6x,a54,b0h,b15,AV.len,a5w,a4j]
 rw[hs]
 refine⟨by omega,by omega,by omega,(),⟨0,by simp,rfl,?_⟩,fun i hi=>⟨fun hlt=>?_,fun hlt=>?_⟩⟩
 ·refine⟨z2g _,fun j hj=>?_⟩
  rw[z5 hj]; rfl
 ·have hi2:=a8r hlt
  obtain⟨q1,q2,q3,q4⟩:=h3 _ (a7y hi2)
  have e:=ixwI q1 q3 q2 q4 h2
  have e2:(b6 (0,0) l i).1.toNat * N.toNat + (b6 (0,0) l i).2.toNat < N.toNat * N.toNat:=b3g (by omega) (by omega)
  rw[e]
  simp only[z2g]
  exact⟨bd hi2,hi2,bd hi2,hi2,by omega,e2,i + 1,by omega,by omega,b00 (by omega) hl,c9e hv hi2⟩
 ·have hi2:=a8u hlt hi
  rw[hi2,z3i]
  simp only[z2g,z0n,and_true]
theorem d0b (n:Int) (h:List Bool):(n7 (c1i [] [(0,.of (a6x n (m7 n.toNat h) 6)),(2,a54 n (m7 n.toNat h) 7)] 2 [.fresh 2 1 67 2]) Tryz.f115 [.i .i64 n,.sl 0 h.length] [arB h] (a35 (a83 n (b7 n (m7 n.toNat h)).length) 67 (b7 n (m7 n.toNat h)).length (a0e (b7 n (m7 n.toNat h)))))=(∃(x:PUnit),
 (∃(x:Nat),
 (x≤n.toNat∧True) ∧
 ((0:Int)=(↑x:Int)∧True) ∧
 (n=n∧(0:Nat)=(b9 (m7 n.toNat h) n.toNat x).length) ∧
 ((0:Nat)=(b9 (m7 n.toNat h) n.toNat x).length ∧
 (b9 (m7 n.toNat h) n.toNat x).length=(0:Nat) ∧
 (b9 (m7 n.toNat h) n.toNat x).length=(0:Nat)∧True) ∧
 True) ∧
 ∀(x_1:Nat),
 x_1≤n.toNat∧True →
 (decide ((↑x_1:Int) < n)=true →
 ∃(x_2:Nat),
 (∃(x:Nat),
 (x≤n.toNat∧x_2 < n.toNat) ∧
 ((0:Int)=(↑x:Int)∧True) ∧
 (n=n ∧
 (b9 (m7 n.toNat h) n.toNat x_1).length =
 (b9 (m7 n.toNat h) n.toNat x_2 ++ d7 (m7 n.toNat h) x_2 x).length) ∧
 ((b9 (m7 n.toNat h) n.toNat x_1).length =
 (b9 (m7 n.toNat h) n.toNat x_2 ++ d7 (m7 n.toNat h) x_2 x).length ∧
 (∀(j:Nat),
 j < (b9 (m7 n.toNat h) n.toNat x_2 ++ d7 (m7 n.toNat h) x_2 x).length →
 (b6 ((0:Int),(0:Int)) (b9 (m7 n.toNat h) n.toNat x_1) j).fst =
 (b6 ((0:Int),(0:Int))
 (b9 (m7 n.toNat h) n.toNat x_2 ++ d7 (m7 n.toNat h) x_2 x) j).fst) ∧
 (∀(j:Nat),
 j < (b9 (m7 n.toNat h) n.toNat x_2 ++ d7 (m7 n.toNat h) x_2 x).length →
 (b6 ((0:Int),(0:Int)) (b9 (m7 n.toNat h) n.toNat x_1) j).snd =
 (b6 ((0:Int),(0:Int))
 (b9 (m7 n.toNat h) n.toNat x_2 ++ d7 (m7 n.toNat h) x_2 x) j).snd) ∧
 True) ∧
 True) ∧
 ∀(x_3:Nat),
 x_3≤n.toNat∧x_2 < n.toNat →
 (decide ((↑x_3:Int) < n)=true →
 ((0:Int)≤IntKind.i64.wrap (IntKind.i64.wrap ((↑x_1:Int) * n) + (↑x_3:Int)) ∧
 IntKind.i64.wrap (IntKind.i64.wrap ((↑x_1:Int) * n) + (↑x_3:Int)) < (↑h.length:Int)) ∧
 (IntKind.i64.wrap (IntKind.i64.wrap ((↑x_1:Int) * n) + (↑x_3:Int))).toNat < h.length ∧
 (b6 false h
 (IntKind.i64.wrap (IntKind.i64.wrap ((↑x_1:Int) * n) + (↑x_3:Int))).toNat =
 true →
 (b9 (m7 n.toNat h) n.toNat x_2 ++ d7 (m7 n.toNat h) x_2 x_3).length =
 (b9 (m7 n.toNat h) n.toNat x_2 ++ d7 (m7 n.toNat h) x_2 x_3).length ∧
 (1:Nat)=(1:Nat) ∧
 ((b9 (m7 n.toNat h) n.toNat x_2 ++ d7 (m7 n.toNat h) x_2 x_3).length +
 (1:Nat)) *
 (16:Nat) ≤
 (140737488355328:Nat) ∧
 (b9 (m7 n.toNat h) n.toNat x_2 ++ d7 (m7 n.toNat h) x_2 x_3).length +
 (1:Nat) ≤
 (9223372036854775807:Nat) ∧
 ∃(x:Nat),
 (x≤n.toNat∧x_2 < n.toNat) ∧
 ((a54 n (m7 n.toNat h) (7:Nat)).ann x_2).mu x <
 ((a54 n (m7 n.toNat h) (7:Nat)).ann x_2).mu x_3 ∧
 (n=n ∧
 h.length=h.length ∧
 True ∧
 True ∧
 (↑x_1:Int)=(↑x_1:Int) ∧
 IntKind.i64.wrap ((↑x_3:Int) + (1:Int))=(↑x:Int) ∧
 n=n ∧
 (n=n∧True) ∧
 (↑x_1:Int)=(↑x_1:Int) ∧
 n=n∧true=true∧True) ∧
 (h.length=h.length ∧
 (∀(j:Nat),j < h.length→b6 false h j=b6 false h j) ∧
 True) ∧
 ((0:Int)=(0:Int)∧True) ∧
 (n=n ∧
 (b9 (m7 n.toNat h) n.toNat x_2 ++
 d7 (m7 n.toNat h) x_2 x_3).length +
 (1:Nat) =
 (b9 (m7 n.toNat h) n.toNat x_2 ++
 d7 (m7 n.toNat h) x_2 x).length) ∧
 ((b9 (m7 n.toNat h) n.toNat x_2 ++
 d7 (m7 n.toNat h) x_2 x_3).length +
 (1:Nat) =
 (b9 (m7 n.toNat h) n.toNat x_2 ++
 d7 (m7 n.toNat h) x_2 x).length ∧
 (∀(j:Nat),
 j <
 (b9 (m7 n.toNat h) n.toNat x_2 ++
 d7 (m7 n.toNat h) x_2 x).length →
 (bif
 j.blt
 (b9 (m7 n.toNat h) n.toNat x_2 ++
 d7 (m7 n.toNat h) x_2 x_3).length then
 (b6 ((0:Int),(0:Int))
 (b9 (m7 n.toNat h) n.toNat x_2 ++
 d7 (m7 n.toNat h) x_2 x_3)
 j).fst
 else
 e8 [(↑x_1:Int)]
 (j -
 (b9 (m7 n.toNat h) n.toNat x_2 ++
 d7 (m7 n.toNat h) x_2 x_3).length)) =
 (b6 ((0:Int),(0:Int))
 (b9 (m7 n.toNat h) n.toNat x_2 ++
 d7 (m7 n.toNat h) x_2 x)
 j).fst) ∧
 (∀(j:Nat),
 j <
 (b9 (m7 n.toNat h) n.toNat x_2 ++
 d7 (m7 n.toNat h) x_2 x).length →
 (bif
 j.blt
 (b9 (m7 n.toNat h) n.toNat x_2 ++
 d7 (m7 n.toNat h) x_2 x_3).length then
 (b6 ((0:Int),(0:Int))
 (b9 (m7 n.toNat h) n.toNat x_2 ++
 d7 (m7 n.toNat h) x_2 x_3)
 j).snd
 else
 e8 [(↑x_3:Int)]
 (j -
 (b9 (m7 n.toNat h) n.toNat x_2 ++
 d7 (m7 n.toNat h) x_2 x_3).length)) =
 (b6 ((0:Int),(0:Int))
 (b9 (m7 n.toNat h) n.toNat x_2 ++
 d7 (m7 n.toNat h) x_2 x)
 j).snd) ∧
 True) ∧
 True) ∧
 (b6 false h
 (IntKind.i64.wrap (IntKind.i64.wrap ((↑x_1:Int) * n) + (↑x_3:Int))).toNat =
 false →
 ∃(x:Nat),
 (x≤n.toNat∧x_2 < n.toNat) ∧
 ((a54 n (m7 n.toNat h) (7:Nat)).ann x_2).mu x <
 ((a54 n (m7 n.toNat h) (7:Nat)).ann x_2).mu x_3 ∧
 (n=n ∧
 h.length=h.length ∧
 True ∧
 True ∧
 (↑x_1:Int)=(↑x_1:Int) ∧
 IntKind.i64.wrap ((↑x_3:Int) + (1:Int))=(↑x:Int) ∧
 n=n ∧
 (n=n∧True) ∧
 (↑x_1:Int)=(↑x_1:Int)∧n=n∧true=true∧True) ∧
 (h.length=h.length ∧
 (∀(j:Nat),j < h.length→b6 false h j=b6 false h j)∧True) ∧
 ((0:Int)=(0:Int)∧True) ∧
 (n=n ∧
 (b9 (m7 n.toNat h) n.toNat x_2 ++
 d7 (m7 n.toNat h) x_2 x_3).length =
 (b9 (m7 n.toNat h) n.toNat x_2 ++
 d7 (m7 n.toNat h) x_2 x).length) ∧
 ((b9 (m7 n.toNat h) n.toNat x_2 ++
 d7 (m7 n.toNat h) x_2 x_3).length =
 (b9 (m7 n.toNat h) n.toNat x_2 ++
 d7 (m7 n.toNat h) x_2 x).length ∧
 (∀(j:Nat),
 j <
 (b9 (m7 n.toNat h) n.toNat x_2 ++
 d7 (m7 n.toNat h) x_2 x).length →
 (b6 ((0:Int),(0:Int))
 (b9 (m7 n.toNat h) n.toNat x_2 ++
 d7 (m7 n.toNat h) x_2 x_3)
 j).fst =
 (b6 ((0:Int),(0:Int))
 (b9 (m7 n.toNat h) n.toNat x_2 ++
 d7 (m7 n.toNat h) x_2 x)
 j).fst) ∧
 (∀(j:Nat),
 j <
 (b9 (m7 n.toNat h) n.toNat x_2 ++
 d7 (m7 n.toNat h) x_2 x).length →
 (b6 ((0:Int),(0:Int))
 (b9 (m7 n.toNat h) n.toNat x_2 ++
 d7 (m7 n.toNat h) x_2 x_3)
 j).snd =
 (b6 ((0:Int),(0:Int))
 (b9 (m7 n.toNat h) n.toNat x_2 ++
 d7 (m7 n.toNat h) x_2 x)
 j).snd) ∧
 True) ∧
 True)) ∧
 (decide ((↑x_3:Int) < n)=false →
 ∃(x_4:Nat),
 (x_4≤n.toNat∧True) ∧
 ((PLoop.of (a6x n (m7 n.toNat h) (6:Nat))).ann x).mu x_4 <
 ((PLoop.of (a6x n (m7 n.toNat h) (6:Nat))).ann x).mu x_1 ∧
 (n=n ∧
 h.length=h.length ∧
 True ∧
 True ∧
 IntKind.i64.wrap ((↑x_1:Int) + (1:Int))=(↑x_4:Int) ∧
 n=n∧(n=n∧True)∧True) ∧
 (h.length=h.length ∧
 (∀(j:Nat),j < h.length→b6 false h j=b6 false h j)∧True) ∧
 ((0:Int)=(0:Int)∧True) ∧
 (n=n ∧
 (b9 (m7 n.toNat h) n.toNat x_2 ++ d7 (m7 n.toNat h) x_2 x_3).length =
 (b9 (m7 n.toNat h) n.toNat x_4).length) ∧
 ((b9 (m7 n.toNat h) n.toNat x_2 ++ d7 (m7 n.toNat h) x_2 x_3).length =
 (b9 (m7 n.toNat h) n.toNat x_4).length ∧
 (∀(j:Nat),
 j < (b9 (m7 n.toNat h) n.toNat x_4).length →
 (b6 ((0:Int),(0:Int))
 (b9 (m7 n.toNat h) n.toNat x_2 ++
 d7 (m7 n.toNat h) x_2 x_3)
 j).fst =
 (b6 ((0:Int),(0:Int)) (b9 (m7 n.toNat h) n.toNat x_4)
 j).fst) ∧
 (∀(j:Nat),
 j < (b9 (m7 n.toNat h) n.toNat x_4).length →
 (b6 ((0:Int),(0:Int))
 (b9 (m7 n.toNat h) n.toNat x_2 ++
 d7 (m7 n.toNat h) x_2 x_3)
 j).snd =
 (b6 ((0:Int),(0:Int)) (b9 (m7 n.toNat h) n.toNat x_4)
 j).snd) ∧
 True) ∧
 True)) ∧
 (decide ((↑x_1:Int) < n)=false →
 (b9 (m7 n.toNat h) n.toNat x_1).length=(b7 n (m7 n.toNat h)).length ∧
 ((∀(j:Nat),
 j < (b7 n (m7 n.toNat h)).length →
 (b6 ((0:Int),(0:Int)) (b9 (m7 n.toNat h) n.toNat x_1) j).fst =
 (b6 ((0:Int),(0:Int)) (b7 n (m7 n.toNat h)) j).fst) ∧
 (∀(j:Nat),
 j < (b7 n (m7 n.toNat h)).length →
 (b6 ((0:Int),(0:Int)) (b9 (m7 n.toNat h) n.toNat x_1) j).snd =
 (b6 ((0:Int),(0:Int)) (b7 n (m7 n.toNat h)) j).snd) ∧
 True) ∧
 n=n∧(b9 (m7 n.toNat h) n.toNat x_1).length=(b7 n (m7 n.toNat h)).length∧True)):=by kernel_rfl
theorem v115 (n:Int) (h:List Bool) (hn:0≤n∧n≤64) (hh:h.length=n.toNat * n.toNat):n7 (c1i [] [(0,.of (a6x n (m7 n.toNat h) 6)),(2,a54 n (m7 n.toNat h) 7)] 2 [.fresh 2 1 67 2]) Tryz.f115 [.i .i64 n,.sl 0 h.length] [arB h] (a35 (a83 n (b7 n (m7 n.toNat h)).length) 67 (b7 n (m7 n.toNat h)).length (a0e (b7 n (m7 n.toNat h)))):=by
 rw[d0b]
 have hn0:=hn.1
 have hn1:=hn.2
 have hN:n.toNat≤64:=by omega
 have hlen:∀ a b,a < n.toNat→b≤n.toNat→(b9 (m7 n.toNat h) n.toNat a ++ d7 (m7 n.toNat h) a b).length≤8192:=fun a b ha hb=>by
  have h1:=a27 (m7 n.toNat h) n.toNat a
  have h2:=a7e (m7 n.toNat h) a b
  have h3:a * n.toNat≤64 * 64:=z2i (by omega) hN
  rw[z0x]; omega
 simp only[eq_self,true_and,and_true,z0n,imp_self,l7,l8,g7,g9,PLoop.of,p9,a6v,b10,a6x,a54,b0h,b15,AV.len]
 refine⟨(),⟨0,by simp,rfl,?_⟩,fun a ha=>⟨fun hlt=>⟨a,⟨0,?_⟩,fun b hb=>⟨fun hlb=>?_,fun hlb=>?_⟩⟩,fun hlt=>?_⟩⟩
 ·simp[a1w]
 ·have ha2:a < n.toNat:=by have:=z0e hlt; omega
  simp[a33,ha2]
 ·have hb2:b < n.toNat:=by have:=z0e hlb; omega
  have hix:=ixw (a:=a) (b:=b) (N:=n) (by omega) (by omega) (by omega)
  have hix2:a * n.toNat + b < h.length:=by rw[hh]; exact b3g hb.2 hb2
  rw[hix]
  simp only[z2g]
  refine⟨by omega,hix2,fun hf=>?_,fun hf=>?_⟩
  ·rw[← c22] at hf
   have h1:=hlen a b hb.2 hb.1
   have e:d7 (m7 n.toNat h) a (b + 1)=d7 (m7 n.toNat h) a b ++ [((a:Int),(b:Int))]:=by rw[y3,if_pos hf]
   have e2:b9 (m7 n.toNat h) n.toNat a ++ d7 (m7 n.toNat h) a (b + 1)=(b9 (m7 n.toNat h) n.toNat a ++ d7 (m7 n.toNat h) a b) ++ [((a:Int),(b:Int))]:=by rw[e,z1w]
   refine⟨by omega,by omega,b + 1,⟨by omega,hb.2⟩,by omega,wrS (n:=n.toNat) hb2 (by omega),?_⟩
   rw[e2]
   have e3:(b9 (m7 n.toNat h) n.toNat a ++ d7 (m7 n.toNat h) a b ++ [((a:Int),(b:Int))]).length=(b9 (m7 n.toNat h) n.toNat a ++ d7 (m7 n.toNat h) a b).length + 1:=by rw[z0x (bs:=[((a:Int),(b:Int))])]; rfl
   exact⟨e3.symm,e3.symm,ap1 (·.1) _ _,ap1 (·.2) _ _⟩
  ·rw[← c22] at hf
   have e:d7 (m7 n.toNat h) a (b + 1)=d7 (m7 n.toNat h) a b:=by rw[y3,if_neg (by rw[hf]; simp),z1f]
   refine⟨b + 1,⟨by omega,hb.2⟩,by omega,wrS (n:=n.toNat) hb2 (by omega),?_⟩
   rw[e]
   simp
 ·have hb2:b=n.toNat:=by have:=z0m hlb; omega
  have e:b9 (m7 n.toNat h) n.toNat (a + 1)=b9 (m7 n.toNat h) n.toNat a ++ d7 (m7 n.toNat h) a b:=by rw[a0r,hb2]
  refine⟨a + 1,by omega,by omega,wrS (n:=n.toNat) hb.2 (by omega),?_⟩
  rw[e]
  simp
 ·have ha2:a=n.toNat:=by have:=z0m hlt; omega
  subst ha2
  simp[b7]
theorem d65 (N:Int) (l:List Pq) (a b:Int):(n7 (tab [b68 []] [(0,.of (b15 l a b 7))]) Tryz.f46 [rlV N 0 l,.i .i64 a,.i .i64 b] [arP l] (j9 (.b (d6 N l && d5 l a b))))=(l.length=l.length ∧
 (mkN (fun(j:Nat)=>((b6 ((0:Int),(0:Int)) l j).fst,(b6 ((0:Int),(0:Int)) l j).snd))
 l.length).length ≤
 (1099511627776:Nat) ∧
 ((!d6 N
 (mkN (fun(j:Nat)=>((b6 ((0:Int),(0:Int)) l j).fst,(b6 ((0:Int),(0:Int)) l j).snd))
 l.length)) =
 true →
 false=(d6 N l && d5 l a b)) ∧
 ((!d6 N
 (mkN (fun(j:Nat)=>((b6 ((0:Int),(0:Int)) l j).fst,(b6 ((0:Int),(0:Int)) l j).snd))
 l.length)) =
 false →
 ∃(x:PUnit),
 (∃(x:Nat),(x≤l.length∧d5 (List.take x l) a b=false)∧((0:Int)=(↑x:Int)∧True)∧True) ∧
 ∀(x_1:Nat),
 x_1≤l.length∧d5 (List.take x_1 l) a b=false →
 (decide ((↑x_1:Int) < (↑l.length:Int))=true →
 ((0:Int)≤(↑x_1:Int)∧(↑x_1:Int) < (↑l.length:Int)) ∧
 x_1 < l.length ∧
 (((b6 ((0:Int),(0:Int)) l x_1).fst == a)=true →
 (0:Int)≤(↑x_1:Int)∧(↑x_1:Int) < (↑l.length:Int)) ∧
 (((b6 ((0:Int),(0:Int)) l x_1).fst == a)=true→x_1 < l.length) ∧
 (((b6 ((0:Int),(0:Int)) l x_1).fst == a &&
 (b6 ((0:Int),(0:Int)) l x_1).snd == b) =
 true →
 true=(d6 N l && d5 l a b)) ∧
 (((b6 ((0:Int),(0:Int)) l x_1).fst == a &&
 (b6 ((0:Int),(0:Int)) l x_1).snd == b) =
 false →
 ∃(x_2:Nat),
 (x_2≤l.length∧d5 (List.take x_2 l) a b=false) ∧
 ((PLoop.of (b15 l a b (7:Nat))).ann x).mu x_2 <
 ((PLoop.of (b15 l a b (7:Nat))).ann x).mu x_1 ∧
 ((N=N∧l.length=l.length) ∧
 a=a ∧
 b=b ∧
 True ∧
 IntKind.i64.wrap ((↑x_1:Int) + (1:Int))=(↑x_2:Int) ∧
 (N=N∧l.length=l.length) ∧
 d6 N
 (mkN
 (fun(j:Nat) =>
 ((b6 ((0:Int),(0:Int)) l j).fst,
 (b6 ((0:Int),(0:Int)) l j).snd))
 l.length) =
 d6 N
 (mkN
 (fun(j:Nat) =>
 ((b6 ((0:Int),(0:Int)) l j).fst,
 (b6 ((0:Int),(0:Int)) l j).snd))
 l.length) ∧
 false=false∧True) ∧
 (l.length=l.length ∧
 (∀(j:Nat),
 j < l.length →
 (b6 ((0:Int),(0:Int)) l j).fst =
 (b6 ((0:Int),(0:Int)) l j).fst) ∧
 (∀(j:Nat),
 j < l.length →
 (b6 ((0:Int),(0:Int)) l j).snd =
 (b6 ((0:Int),(0:Int)) l j).snd) ∧
 True) ∧
 (N=N∧l.length=l.length)∧True)) ∧
 (decide ((↑x_1:Int) < (↑l.length:Int))=false→false=(d6 N l && d5 l a b)))):=by kernel_rfl
theorem v46 (N:Int) (l:List Pq) (a b:Int) (hl:L9 l):n7 (tab [b68 []] [(0,.of (b15 l a b 7))]) Tryz.f46 [rlV N 0 l,.i .i64 a,.i .i64 b] [arP l] (j9 (.b (d6 N l && d5 l a b))):=by
 rw[d65]
 simp only[eq_self,true_and,and_true,z0n,imp_self,l7,l8,g7,g9,PLoop.of,p9,a6v,b10,a6x,a54,b0h,b15,AV.len]
 refine⟨hl,fun h=>?_,fun h=>⟨(),⟨0,by simp,rfl⟩,fun i hi=>⟨fun hlt=>?_,fun hlt=>?_⟩⟩⟩
 ·simp at h; simp[h]
 ·have hv:d6 N l=true:=by simpa using h
  have hi2:=a8r hlt
  refine⟨bd hi2,hi2,fun _=>bd hi2,fun _=>hi2,fun hc=>?_,fun hc=>?_⟩
  ·have:d5 l a b=true:=a52.2 (by simp at hc; rw[← hc.1,← hc.2]; exact a7y hi2)
   rw[hv,this]; rfl
  ·refine⟨i + 1,⟨by omega,?_⟩,by omega,b00 (by omega) hl⟩
   rw[b0o hi2,hi.2,Bool.or_false,← hc]
   rw[z2x]; simp; constructor <;> rintro ⟨rfl,rfl⟩ <;> exact⟨rfl,rfl⟩
 ·have hi2:=a8u hlt hi.1
  have hs:=hi.2
  rw[hi2,z3i] at hs
  rw[hs,Bool.and_false]
theorem d1g (N:Int) (l:List Pq):(n7 (tab [b7r [],c3c [],b7q []] []) Tryz.f109 [rlV N 0 l] [arP l] (a35 (a83 (bif d6 N l then N else 0) (i4 (d6 N l) (b7 N (d5 l))).length) 67 (i4 (d6 N l) (b7 N (d5 l))).length (a0e (i4 (d6 N l) (b7 N (d5 l))))))=(l.length=l.length ∧
 (mkN (fun(j:Nat)=>((b6 ((0:Int),(0:Int)) l j).fst,(b6 ((0:Int),(0:Int)) l j).snd))
 l.length).length ≤
 (1099511627776:Nat) ∧
 ((!d6 N
 (mkN (fun(j:Nat)=>((b6 ((0:Int),(0:Int)) l j).fst,(b6 ((0:Int),(0:Int)) l j).snd))
 l.length)) =
 true →
 (i4 (d6 N l) (b7 N (d5 l))).length=(0:Nat) ∧
 ((0:Int)=bif d6 N l then N else(0:Int)) ∧
 (i4 (d6 N l) (b7 N (d5 l))).length=(0:Nat)∧True) ∧
 ((!d6 N
 (mkN (fun(j:Nat)=>((b6 ((0:Int),(0:Int)) l j).fst,(b6 ((0:Int),(0:Int)) l j).snd))
 l.length)) =
 false →
 l.length=l.length ∧
 (mkN (fun(j:Nat)=>((b6 ((0:Int),(0:Int)) l j).fst,(b6 ((0:Int),(0:Int)) l j).snd))
 l.length).length ≤
 (1099511627776:Nat) ∧
 ((0:Int)≤N∧N≤(64:Int)) ∧
 (AV.ps
 (b7 N
 (d5
 (mkN
 (fun(j:Nat) =>
 ((b6 ((0:Int),(0:Int)) l j).fst,(b6 ((0:Int),(0:Int)) l j).snd))
 l.length)))).len =
 (i4 (d6 N l) (b7 N (d5 l))).length ∧
 ((∀(j:Nat),
 j < (i4 (d6 N l) (b7 N (d5 l))).length →
 (b6 ((0:Int),(0:Int))
 (b7 N
 (d5
 (mkN
 (fun(j:Nat) =>
 ((b6 ((0:Int),(0:Int)) l j).fst,(b6 ((0:Int),(0:Int)) l j).snd))
 l.length)))
 j).fst =
 (b6 ((0:Int),(0:Int)) (i4 (d6 N l) (b7 N (d5 l))) j).fst) ∧
 (∀(j:Nat),
 j < (i4 (d6 N l) (b7 N (d5 l))).length →
 (b6 ((0:Int),(0:Int))
 (b7 N
 (d5
 (mkN
 (fun(j:Nat) =>
 ((b6 ((0:Int),(0:Int)) l j).fst,(b6 ((0:Int),(0:Int)) l j).snd))
 l.length)))
 j).snd =
 (b6 ((0:Int),(0:Int)) (i4 (d6 N l) (b7 N (d5 l))) j).snd) ∧
 True) ∧
 (N=bif d6 N l then N else(0:Int)) ∧
 (AV.ps
 (b7 N
 (d5
 (mkN
 (fun(j:Nat) =>
 ((b6 ((0:Int),(0:Int)) l j).fst,(b6 ((0:Int),(0:Int)) l j).snd))
 l.length)))).len =
 (i4 (d6 N l) (b7 N (d5 l))).length ∧
 True)):=by kernel_rfl
theorem v109 (N:Int) (l:List Pq) (hl:L9 l):n7 (tab [b7r [],c3c [],b7q []] []) Tryz.f109 [rlV N 0 l] [arP l] (a35 (a83 (bif d6 N l then N else 0) (i4 (d6 N l) (b7 N (d5 l))).length) 67 (i4 (d6 N l) (b7 N (d5 l))).length (a0e (i4 (d6 N l) (b7 N (d5 l))))):=by
 rw[d1g]
 simp only[eq_self,true_and,and_true,z0n,imp_self,l7,l8,g7,g9,PLoop.of,p9,a6v,b10,a6x,a54,b0h,b15,AV.len]
 refine⟨hl,fun h=>?_,fun h=>?_⟩
 ·have hv:d6 N l=false:=by simpa using h
  simp[hv,i4]
 ·have hv:d6 N l=true:=by simpa using h
  obtain⟨h1,h2,h3⟩:=w5.1 hv
  rw[hv]
  simp only[i4,z0g,eq_self,true_and,and_true,z0n]
  exact⟨hl,h1,h2⟩
end Go.Proofs.YtaeeaniofljmnaaGreatDoor

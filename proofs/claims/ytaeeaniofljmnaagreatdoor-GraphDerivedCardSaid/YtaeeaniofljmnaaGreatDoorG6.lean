/-
  A part of the proof (G6).
-/
import Derived.Test.YtaeeaniofljmnaaGreatDoorG4
namespace Go.Proofs.YtaeeaniofljmnaaGreatDoor
set_option linter.unusedSimpArgs false
set_option linter.unusedVariables false
open Go Go.Proofs.YtaeeaniofljmnaaGreatDoor.Sx
set_option maxRecDepth 100000
def b0l (f:Pf) (m a:Nat):Pf:=fun x y=>bif decide (x < (a:Int)) then wF f (m + 1) x y else wF f m x y
def a3b (f:Pf) (m a b:Nat):Pf:=fun x y=>bif decide (x < (a:Int)) || (decide (x=(a:Int)) && decide (y < (b:Int))) then wF f (m + 1) x y else wF f m x y
def d6l (e n:Nat) (f:Pf):Nat × MBlk:=(e,.oarr 4 (n * n) (a4j (q8 n f)))
def lWm (n:Nat) (f:Pf) (t e:Nat):LAnn:=p9 n t (fun _=>True) (fun m=>[d6l e n (wF f m)]) []
def lWa (n:Nat) (f:Pf) (t e:Nat):PLoop:=⟨Nat,fun m=>p9 n t (fun _=>m < n) (fun a=>[d6l e n (b0l f m a)]) []⟩
def lWb (n:Nat) (f:Pf) (t e:Nat):PLoop:=⟨Nat × Nat,fun p=>p9 n t (fun _=>p.1 < n∧p.2 < n) (fun b=>[d6l e n (a3b f p.1 p.2 b)]) []⟩
def a2l (n:Nat) (f:Pf):Bool:=(List.range n).all (fun a=>!f a a)
def b6f (n:Nat) (f:Pf) (t:Nat):LAnn:=p9 n t (fun i=>a2l i f=true) (fun _=>[]) []
def c8s:Sp:=fun | [.r N l]=>some ([d6 N l=true,L9 l],.sl (fun k=>.sl 0 k) (.bs (q8 N.toNat (wF (d5 l) N.toNat)))) | _=>none
def b51:Sp:=fun | [.r N l]=>some ([L9 l],.sl (a83 (bif d6 N l then N else 0)) (.ps (bif d6 N l then b7 N (wF (d5 l) N.toNat) else []))) | _=>none
def c70:Sp:=fun | [.r N l]=>some ([L9 l],.pl (.b (d6 N l && a2l N.toNat (wF (d5 l) N.toNat)))) | _=>none
def d4f (nm:List (Option AV)):Nat × (List MBlk→List SV→Option AR):=(116,a07 EL nm [.r] c8s)
def kClo (nm:List (Option AV)):Nat × (List MBlk→List SV→Option AR):=(110,a07 EL nm [.r] b51)
def d3y (nm:List (Option AV)):Nat × (List MBlk→List SV→Option AR):=(59,a07 EL nm [.r] b51)
def kAcy (nm:List (Option AV)):Nat × (List MBlk→List SV→Option AR):=(63,a07 EL nm [.r] c70)
theorem b6m {n a b:Nat} {g:Pf} (ha:a < n) (hb:b < n):b6 false (q8 n g) (a * n + b)=g a b:=by
 rw[z5 (b3g ha hb),c19 hb,c11 hb]
theorem c3z {f:Pf} {m n j:Nat} (hj:j < n * n):b6 false (q8 n (wF f m)) j=b6 false (q8 n (b0l f m 0)) j:=by
 rw[z5 hj,z5 hj,b0l]
 rw[decide_eq_false (p:=((j / n:Nat):Int) < ((0:Nat):Int)) (by generalize j / n=q; omega)]; rfl
theorem c5n {f:Pf} {m n j:Nat} (hj:j < n * n):b6 false (q8 n (b0l f m n)) j=b6 false (q8 n (wF f (m + 1))) j:=by
 rw[z5 hj,z5 hj,b0l]
 have:j / n < n:=Nat.div_lt_of_lt_mul hj
 rw[decide_eq_true (by omega)]; rfl
theorem c47 {f:Pf} {m n a j:Nat} (hj:j < n * n):b6 false (q8 n (b0l f m a)) j=b6 false (q8 n (a3b f m a 0)) j:=by
 rw[z5 hj,z5 hj,b0l,a3b]
 rw[decide_eq_false (p:=((j % n:Nat):Int) < ((0:Nat):Int)) (by omega),Bool.and_false,Bool.or_false]
theorem d17 {f:Pf} {m a b:Nat}:a3b f m a b a m=wF f m a m:=by
 rw[a3b]
 rw[decide_eq_false (p:=(a:Int) < (a:Int)) (by omega),decide_eq_true (p:=(a:Int)=(a:Int)) rfl,Bool.false_or,z1l]
 cases decide ((m:Int) < (b:Int))
 ·rfl
 ·simp only[z0g,wF]
  cases wF f m a m <;> simp
theorem c4c {f:Pf} {m n a b j:Nat} (hj:j < n * n) (h:b=n∨wF f m a m=false):b6 false (q8 n (a3b f m a b)) j=b6 false (q8 n (b0l f m (a + 1))) j:=by
 rw[z5 hj,z5 hj,b0l,a3b]
 have hn:0 < n:=by rcases Nat.eq_zero_or_pos n with e | e; subst e; omega; exact e
 have hm:j % n < n:=Nat.mod_lt _ hn
 by_cases h1:((j / n:Nat):Int) < (a:Int)
 ·rw[decide_eq_true h1,decide_eq_true (p:=((j / n:Nat):Int) < ((a + 1:Nat):Int)) (by omega)]; rfl
 ·rw[decide_eq_false h1,Bool.false_or]
  by_cases h2:((j / n:Nat):Int)=(a:Int)
  ·rw[decide_eq_true h2,z1l,decide_eq_true (p:=((j / n:Nat):Int) < ((a + 1:Nat):Int)) (by omega)]
   rcases h with rfl | h
   ·rw[decide_eq_true (by omega)]
   ·cases decide (((j % n:Nat):Int) < (b:Int))
    ·rw[h2]; simp only[z0l,z0g,wF,h,Bool.false_and,Bool.or_false]
    ·rfl
  ·rw[decide_eq_false h2,Bool.false_and,decide_eq_false (p:=((j / n:Nat):Int) < ((a + 1:Nat):Int)) (by omega)]
theorem c5k {f:Pf} {m n a b:Nat} (hm:m < n) (ha:a < n) (hb:b < n) (h:wF f m a m=true) {j:Nat} (hj:j < n * n) :
  (bif Nat.beq j (a * n + b) then b6 false (q8 n (a3b f m a b)) (a * n + b) || b6 false (q8 n (a3b f m a b)) (m * n + b) else b6 false (q8 n (a3b f m a b)) j)=b6 false (q8 n (a3b f m a (b + 1))) j:=by
 by_cases e:j=a * n + b
 ·subst e
  rw[c2k,z0g,b6m ha hb,b6m hm hb,b6m ha hb]
  have e1:a3b f m a b a b=wF f m a b:=by
   rw[a3b,decide_eq_false (p:=(a:Int) < (a:Int)) (by omega),decide_eq_false (p:=(b:Int) < (b:Int)) (by omega),Bool.and_false]; rfl
  have e2:a3b f m a b m b=wF f m m b:=by
   rw[a3b,decide_eq_false (p:=(b:Int) < (b:Int)) (by omega),Bool.and_false,Bool.or_false]
   cases decide ((m:Int) < (a:Int))
   ·rfl
   ·simp only[z0g,wF]
    cases wF f m m b <;> simp
  have e3:a3b f m a (b + 1) a b=wF f (m + 1) a b:=by
   rw[a3b,decide_eq_false (p:=(a:Int) < (a:Int)) (by omega),decide_eq_true (p:=(a:Int)=(a:Int)) rfl,decide_eq_true (by omega)]; rfl
  rw[e1,e2,e3]
  simp only[wF,h,z1l]
 ·rw[c35 e,z0l,z5 hj,z5 hj,a3b,a3b]
  by_cases h2:((j / n:Nat):Int)=(a:Int)
  ·have:¬ (j % n=b):=fun e3=>e (by
    have:=Nat.div_add_mod j n
    have e4:j / n=a:=by omega
    rw[e4,e3,Nat.mul_comm] at this
    exact this.symm)
   have e5:decide (((j % n:Nat):Int) < (b:Int))=decide (((j % n:Nat):Int) < ((b + 1:Nat):Int)):=by
    rw[decide_eq_decide]; omega
   rw[e5]
  ·rw[decide_eq_false h2,Bool.false_and,Bool.false_and]
theorem d28 (N:Int) (l:List Pq):(n7 (tab [d6c [none,none,none,some (.bs (q8 N.toNat (d5 l)))]] [(0,.of (lWm N.toNat (d5 l) 5 3)),(2,lWa N.toNat (d5 l) 6 3),(4,lWb N.toNat (d5 l) 7 3)]) Tryz.f116 [rlV N 0 l] [arP l] (a35 (.sl 0 (q8 N.toNat (wF (d5 l) N.toNat)).length) 4 (q8 N.toNat (wF (d5 l) N.toNat)).length (a4j (q8 N.toNat (wF (d5 l) N.toNat)))))=(l.length=l.length ∧
 d6 N
 (mkN (fun(j:Nat)=>((b6 ((0:Int),(0:Int)) l j).fst,(b6 ((0:Int),(0:Int)) l j).snd))
 l.length) =
 true ∧
 (mkN (fun(j:Nat)=>((b6 ((0:Int),(0:Int)) l j).fst,(b6 ((0:Int),(0:Int)) l j).snd))
 l.length).length ≤
 (1099511627776:Nat) ∧
 q8 N.toNat
 (d5
 (mkN (fun(j:Nat)=>((b6 ((0:Int),(0:Int)) l j).fst,(b6 ((0:Int),(0:Int)) l j).snd))
 l.length)) =
 q8 N.toNat (d5 l) ∧
 ∃(x:PUnit),
 (∃(x:Nat),
 (x≤N.toNat∧True) ∧
 ((0:Int)=(↑x:Int)∧True) ∧
 ((AV.bs (q8 N.toNat (d5 l))).len=N.toNat * N.toNat ∧
 (∀(j:Nat),
 j < N.toNat * N.toNat →
 b6 false (q8 N.toNat (d5 l)) j=b6 false (q8 N.toNat (wF (d5 l) x)) j) ∧
 True) ∧
 True) ∧
 ∀(x_1:Nat),
 x_1≤N.toNat∧True →
 (decide ((↑x_1:Int) < N)=true →
 ∃(x_2:Nat),
 (∃(x:Nat),
 (x≤N.toNat∧x_2 < N.toNat) ∧
 ((0:Int)=(↑x:Int)∧True) ∧
 (N.toNat * N.toNat=N.toNat * N.toNat ∧
 (∀(j:Nat),
 j < N.toNat * N.toNat →
 b6 false (q8 N.toNat (wF (d5 l) x_1)) j =
 b6 false (q8 N.toNat (b0l (d5 l) x_2 x)) j) ∧
 True) ∧
 True) ∧
 ∀(x_3:Nat),
 x_3≤N.toNat∧x_2 < N.toNat →
 (decide ((↑x_3:Int) < N)=true →
 ∃(x:Nat × Nat),
 (∃(x_4:Nat),
 (x_4≤N.toNat∧x.fst < N.toNat∧x.snd < N.toNat) ∧
 ((0:Int)=(↑x_4:Int)∧True) ∧
 (N.toNat * N.toNat=N.toNat * N.toNat ∧
 (∀(j:Nat),
 j < N.toNat * N.toNat →
 b6 false (q8 N.toNat (b0l (d5 l) x_2 x_3)) j =
 b6 false (q8 N.toNat (a3b (d5 l) x.fst x.snd x_4)) j) ∧
 True) ∧
 True) ∧
 ∀(x_4:Nat),
 x_4≤N.toNat∧x.fst < N.toNat∧x.snd < N.toNat →
 (decide ((↑x_4:Int) < N)=true →
 (0:Int) ≤
 IntKind.i64.wrap (IntKind.i64.wrap ((↑x_3:Int) * N) + (↑x_1:Int)) ∧
 IntKind.i64.wrap (IntKind.i64.wrap ((↑x_3:Int) * N) + (↑x_1:Int)) <
 (↑(AV.bs (q8 N.toNat (d5 l))).len:Int)) ∧
 (decide ((↑x_4:Int) < N)=true →
 (IntKind.i64.wrap
 (IntKind.i64.wrap ((↑x_3:Int) * N) + (↑x_1:Int))).toNat <
 N.toNat * N.toNat) ∧
 ((decide ((↑x_4:Int) < N) &&
 b6 false (q8 N.toNat (a3b (d5 l) x.fst x.snd x_4))
 (IntKind.i64.wrap
 (IntKind.i64.wrap ((↑x_3:Int) * N) + (↑x_1:Int))).toNat) =
 true →
 ((0:Int) ≤
 IntKind.i64.wrap
 (IntKind.i64.wrap ((↑x_3:Int) * N) + (↑x_4:Int)) ∧
 IntKind.i64.wrap
 (IntKind.i64.wrap ((↑x_3:Int) * N) + (↑x_4:Int)) <
 (↑(AV.bs (q8 N.toNat (d5 l))).len:Int)) ∧
 (IntKind.i64.wrap
 (IntKind.i64.wrap ((↑x_3:Int) * N) + (↑x_4:Int))).toNat <
 N.toNat * N.toNat ∧
 (b6 false (q8 N.toNat (a3b (d5 l) x.fst x.snd x_4))
 (IntKind.i64.wrap
 (IntKind.i64.wrap ((↑x_3:Int) * N) +
 (↑x_4:Int))).toNat =
 false →
 (0:Int) ≤
 IntKind.i64.wrap
 (IntKind.i64.wrap ((↑x_1:Int) * N) + (↑x_4:Int)) ∧
 IntKind.i64.wrap
 (IntKind.i64.wrap ((↑x_1:Int) * N) + (↑x_4:Int)) <
 (↑(AV.bs (q8 N.toNat (d5 l))).len:Int)) ∧
 (b6 false (q8 N.toNat (a3b (d5 l) x.fst x.snd x_4))
 (IntKind.i64.wrap
 (IntKind.i64.wrap ((↑x_3:Int) * N) +
 (↑x_4:Int))).toNat =
 false →
 (IntKind.i64.wrap
 (IntKind.i64.wrap ((↑x_1:Int) * N) +
 (↑x_4:Int))).toNat <
 N.toNat * N.toNat) ∧
 ((0:Int) ≤
 IntKind.i64.wrap
 (IntKind.i64.wrap ((↑x_3:Int) * N) + (↑x_4:Int)) ∧
 IntKind.i64.wrap
 (IntKind.i64.wrap ((↑x_3:Int) * N) + (↑x_4:Int)) <
 (↑(AV.bs (q8 N.toNat (d5 l))).len:Int)) ∧
 (IntKind.i64.wrap
 (IntKind.i64.wrap ((↑x_3:Int) * N) +
 (↑x_4:Int))).toNat <
 N.toNat * N.toNat ∧
 ∃(x_5:Nat),
 (x_5≤N.toNat∧x.fst < N.toNat∧x.snd < N.toNat) ∧
 ((lWb N.toNat (d5 l) (7:Nat) (3:Nat)).ann x).mu
 x_5 <
 ((lWb N.toNat (d5 l) (7:Nat) (3:Nat)).ann
 x).mu
 x_4 ∧
 ((N=N∧l.length=l.length) ∧
 True ∧
 (0:Nat)=(0:Nat) ∧
 (AV.bs (q8 N.toNat (d5 l))).len =
 (AV.bs (q8 N.toNat (d5 l))).len ∧
 N=N ∧
 (↑x_1:Int)=(↑x_1:Int) ∧
 (↑x_3:Int)=(↑x_3:Int) ∧
 IntKind.i64.wrap
 ((↑x_4:Int) + (1:Int)) =
 (↑x_5:Int) ∧
 (N=N∧l.length=l.length) ∧
 (AV.bs
 (q8 N.toNat
 (d5 l))).len =
 (AV.bs
 (q8 N.toNat
 (d5 l))).len ∧
 True ∧
 N=N ∧
 (↑x_1:Int) =
 (↑x_1:Int) ∧
 N=N ∧
 true=true ∧
 (↑x_3:Int) =
 (↑x_3:Int) ∧
 N=N ∧
 true=true ∧
 True) ∧
 (l.length=l.length ∧
 (∀(j:Nat),
 j < l.length →
 (b6 ((0:Int),(0:Int)) l j).fst =
 (b6 ((0:Int),(0:Int)) l j).fst) ∧
 (∀(j:Nat),
 j < l.length →
 (b6 ((0:Int),(0:Int)) l j).snd =
 (b6 ((0:Int),(0:Int)) l
 j).snd) ∧
 True) ∧
 (N=N∧l.length=l.length) ∧
 ((0:Nat)=(0:Nat)∧True∧True) ∧
 (N.toNat * N.toNat=N.toNat * N.toNat ∧
 (∀(j:Nat),
 j < N.toNat * N.toNat →
 (bif
 j.beq
 (IntKind.i64.wrap
 (IntKind.i64.wrap
 ((↑x_3:Int) * N) +
 (↑x_4 :
 Int))).toNat then
 b6 false
 (q8 N.toNat
 (a3b (d5 l) x.fst x.snd
 x_4))
 (IntKind.i64.wrap
 (IntKind.i64.wrap
 ((↑x_3:Int) * N) +
 (↑x_4 :
 Int))).toNat ||
 b6 false
 (q8 N.toNat
 (a3b (d5 l) x.fst x.snd
 x_4))
 (IntKind.i64.wrap
 (IntKind.i64.wrap
 ((↑x_1:Int) * N) +
 (↑x_4:Int))).toNat
 else
 b6 false
 (q8 N.toNat
 (a3b (d5 l) x.fst x.snd
 x_4))
 j) =
 b6 false
 (q8 N.toNat
 (a3b (d5 l) x.fst x.snd
 x_5))
 j) ∧
 True) ∧
 True) ∧
 ((decide ((↑x_4:Int) < N) &&
 b6 false (q8 N.toNat (a3b (d5 l) x.fst x.snd x_4))
 (IntKind.i64.wrap
 (IntKind.i64.wrap ((↑x_3:Int) * N) + (↑x_1:Int))).toNat) =
 false →
 ∃(x_5:Nat),
 (x_5≤N.toNat∧x_2 < N.toNat) ∧
 ((lWa N.toNat (d5 l) (6:Nat) (3:Nat)).ann x_2).mu x_5 <
 ((lWa N.toNat (d5 l) (6:Nat) (3:Nat)).ann x_2).mu x_3 ∧
 ((N=N∧l.length=l.length) ∧
 True ∧
 (0:Nat)=(0:Nat) ∧
 (AV.bs (q8 N.toNat (d5 l))).len =
 (AV.bs (q8 N.toNat (d5 l))).len ∧
 N=N ∧
 (↑x_1:Int)=(↑x_1:Int) ∧
 IntKind.i64.wrap ((↑x_3:Int) + (1:Int)) =
 (↑x_5:Int) ∧
 (N=N∧l.length=l.length) ∧
 (AV.bs (q8 N.toNat (d5 l))).len =
 (AV.bs (q8 N.toNat (d5 l))).len ∧
 True ∧
 N=N ∧
 (↑x_1:Int)=(↑x_1:Int) ∧
 N=N∧true=true∧True) ∧
 (l.length=l.length ∧
 (∀(j:Nat),
 j < l.length →
 (b6 ((0:Int),(0:Int)) l j).fst =
 (b6 ((0:Int),(0:Int)) l j).fst) ∧
 (∀(j:Nat),
 j < l.length →
 (b6 ((0:Int),(0:Int)) l j).snd =
 (b6 ((0:Int),(0:Int)) l j).snd) ∧
 True) ∧
 (N=N∧l.length=l.length) ∧
 ((0:Nat)=(0:Nat)∧True∧True) ∧
 (N.toNat * N.toNat=N.toNat * N.toNat ∧
 (∀(j:Nat),
 j < N.toNat * N.toNat →
 b6 false
 (q8 N.toNat
 (a3b (d5 l) x.fst x.snd x_4))
 j =
 b6 false
 (q8 N.toNat (b0l (d5 l) x_2 x_5)) j) ∧
 True) ∧
 True)) ∧
 (decide ((↑x_3:Int) < N)=false →
 ∃(x_4:Nat),
 (x_4≤N.toNat∧True) ∧
 ((PLoop.of (lWm N.toNat (d5 l) (5:Nat) (3:Nat))).ann x).mu x_4 <
 ((PLoop.of (lWm N.toNat (d5 l) (5:Nat) (3:Nat))).ann x).mu x_1 ∧
 ((N=N∧l.length=l.length) ∧
 True ∧
 (0:Nat)=(0:Nat) ∧
 (AV.bs (q8 N.toNat (d5 l))).len =
 (AV.bs (q8 N.toNat (d5 l))).len ∧
 N=N ∧
 IntKind.i64.wrap ((↑x_1:Int) + (1:Int))=(↑x_4:Int) ∧
 (N=N∧l.length=l.length) ∧
 (AV.bs (q8 N.toNat (d5 l))).len =
 (AV.bs (q8 N.toNat (d5 l))).len ∧
 True∧N=N∧True) ∧
 (l.length=l.length ∧
 (∀(j:Nat),
 j < l.length →
 (b6 ((0:Int),(0:Int)) l j).fst =
 (b6 ((0:Int),(0:Int)) l j).fst) ∧
 (∀(j:Nat),
 j < l.length →
 (b6 ((0:Int),(0:Int)) l j).snd =
 (b6 ((0:Int),(0:Int)) l j).snd) ∧
 True) ∧
 (N=N∧l.length=l.length) ∧
 ((0:Nat)=(0:Nat)∧True∧True) ∧
 (N.toNat * N.toNat=N.toNat * N.toNat ∧
 (∀(j:Nat),
 j < N.toNat * N.toNat →
 b6 false (q8 N.toNat (b0l (d5 l) x_2 x_3)) j =
 b6 false (q8 N.toNat (wF (d5 l) x_4)) j) ∧
 True) ∧
 True)) ∧
 (decide ((↑x_1:Int) < N)=false →
 N.toNat * N.toNat=(q8 N.toNat (wF (d5 l) N.toNat)).length ∧
 ((∀(j:Nat),
 j < (q8 N.toNat (wF (d5 l) N.toNat)).length →
 b6 false (q8 N.toNat (wF (d5 l) x_1)) j =
 b6 false (q8 N.toNat (wF (d5 l) N.toNat)) j) ∧
 True) ∧
 (AV.bs (q8 N.toNat (d5 l))).len=(q8 N.toNat (wF (d5 l) N.toNat)).length)):=by kernel_rfl
theorem v116 (N:Int) (l:List Pq) (hv:d6 N l=true) (hl:L9 l):n7 (tab [d6c [none,none,none,some (.bs (q8 N.toNat (d5 l)))]] [(0,.of (lWm N.toNat (d5 l) 5 3)),(2,lWa N.toNat (d5 l) 6 3),(4,lWb N.toNat (d5 l) 7 3)]) Tryz.f116 [rlV N 0 l] [arP l] (a35 (.sl 0 (q8 N.toNat (wF (d5 l) N.toNat)).length) 4 (q8 N.toNat (wF (d5 l) N.toNat)).length (a4j (q8 N.toNat (wF (d5 l) N.toNat)))):=by
 rw[d28]
 obtain⟨h1,h2,h3⟩:=w5.1 hv
 have hb:N.toNat * N.toNat≤4096:=c5u (by omega)
 simp only[eq_self,true_and,and_true,z0n,imp_self,l7,l8,g7,g9,PLoop.of,p9,AV.len,a5w,lWm,lWa,lWb,b6f]
 refine⟨hv,hl,(),⟨0,by simp,rfl,fun j hj=>rfl⟩,fun m hm=>⟨fun hlm=>⟨m,⟨0,?_,rfl,fun j hj=>c3z hj⟩,fun a ha=>⟨fun hla=>⟨(m,a),⟨0,?_,rfl,fun j hj=>c47 hj⟩,fun b hb=>?_⟩,fun hla=>?_⟩⟩,fun hlm=>?_⟩⟩
 ·have:=z0e hlm; omega
 ·have:=z0e hlm; have:=z0e hla; simp only; omega
 ·have hm2:=z0e hlm
  have ha2:=z0e hla
  have i1:=ixw (a:=a) (b:=m) (N:=N) (by omega) (by omega) (by omega)
  have i1':=b3g (n:=N.toNat) (a:=a) (b:=m) (by omega) (by omega)
  rw[i1]
  simp only[z2g]
  rw[b6m (by omega) (by omega),d17]
  refine⟨fun hlb=>by omega,fun hlb=>by omega,fun hc=>?_,fun hc=>?_⟩
  ·simp only[z0d] at hc
   have hb2:=z0e hc.1
   have i2:=ixw (a:=a) (b:=b) (N:=N) (by omega) (by omega) (by omega)
   have i2':=b3g (n:=N.toNat) (a:=a) (b:=b) (by omega) (by omega)
   have i3:=ixw (a:=m) (b:=b) (N:=N) (by omega) (by omega) (by omega)
   have i3':=b3g (n:=N.toNat) (a:=m) (b:=b) (by omega) (by omega)
   rw[i2,i3]
   simp only[z2g]
   exact⟨by omega,i2',fun _=>by omega,fun _=>i3',by omega,i2',b + 1,⟨by omega,by omega,by omega⟩,by omega,wrS (n:=64) (by omega) (by omega),fun j hj=>c5k (by omega) (by omega) (by omega) hc.2 hj⟩
  ·refine⟨a + 1,⟨by omega,by omega⟩,by omega,wrS (n:=64) (by omega) (by omega),fun j hj=>c4c hj ?_⟩
   cases e:wF (d5 l) m a m
   ·exact .inr rfl
   ·rw[e,z1v] at hc
    have:=z0m hc
    exact .inl (by omega)
 ·have:=z0m hla
  have e:a=N.toNat:=by omega
  subst e
  exact⟨m + 1,by omega,by omega,wrS (n:=64) (by omega) (by omega),fun j hj=>c5n hj⟩
 ·have:=z0m hlm
  have e:m=N.toNat:=by omega
  subst e
  exact fun j hj=>rfl
theorem d64 (N:Int) (l:List Pq):(n7 (tab [b7r [],c3s []] [(0,.of (b6f N.toNat (wF (d5 l) N.toNat) 12))]) Tryz.f63 [rlV N 0 l] [arP l] (j9 (.b (d6 N l && a2l N.toNat (wF (d5 l) N.toNat)))))=(l.length=l.length ∧
 (mkN (fun(j:Nat)=>((b6 ((0:Int),(0:Int)) l j).fst,(b6 ((0:Int),(0:Int)) l j).snd))
 l.length).length ≤
 (1099511627776:Nat) ∧
 ((!d6 N
 (mkN (fun(j:Nat)=>((b6 ((0:Int),(0:Int)) l j).fst,(b6 ((0:Int),(0:Int)) l j).snd))
 l.length)) =
 true →
 false=(d6 N l && a2l N.toNat (wF (d5 l) N.toNat))) ∧
 ((!d6 N
 (mkN (fun(j:Nat)=>((b6 ((0:Int),(0:Int)) l j).fst,(b6 ((0:Int),(0:Int)) l j).snd))
 l.length)) =
 false →
 l.length=l.length ∧
 d6 N
 (mkN (fun(j:Nat)=>((b6 ((0:Int),(0:Int)) l j).fst,(b6 ((0:Int),(0:Int)) l j).snd))
 l.length) =
 true ∧
 (mkN (fun(j:Nat)=>((b6 ((0:Int),(0:Int)) l j).fst,(b6 ((0:Int),(0:Int)) l j).snd))
 l.length).length ≤
 (1099511627776:Nat) ∧
 ∃(x:PUnit),
 (∃(x:Nat),
 (x≤N.toNat∧a2l x (wF (d5 l) N.toNat)=true)∧((0:Int)=(↑x:Int)∧True)∧True) ∧
 ∀(x_1:Nat),
 x_1≤N.toNat∧a2l x_1 (wF (d5 l) N.toNat)=true →
 (decide ((↑x_1:Int) < N)=true →
 (wF
 (d5
 (mkN
 (fun(j:Nat) =>
 ((b6 ((0:Int),(0:Int)) l j).fst,(b6 ((0:Int),(0:Int)) l j).snd))
 l.length))
 N.toNat (↑x_1:Int) (↑x_1:Int) =
 true →
 false=(d6 N l && a2l N.toNat (wF (d5 l) N.toNat))) ∧
 (wF
 (d5
 (mkN
 (fun(j:Nat) =>
 ((b6 ((0:Int),(0:Int)) l j).fst,(b6 ((0:Int),(0:Int)) l j).snd))
 l.length))
 N.toNat (↑x_1:Int) (↑x_1:Int) =
 false →
 ∃(x_2:Nat),
 (x_2≤N.toNat∧a2l x_2 (wF (d5 l) N.toNat)=true) ∧
 ((PLoop.of (b6f N.toNat (wF (d5 l) N.toNat) (12:Nat))).ann x).mu x_2 <
 ((PLoop.of (b6f N.toNat (wF (d5 l) N.toNat) (12:Nat))).ann x).mu x_1 ∧
 ((N=N∧l.length=l.length) ∧
 True ∧
 True ∧
 (N=N∧l.length=l.length) ∧
 d6 N
 (mkN
 (fun(j:Nat) =>
 ((b6 ((0:Int),(0:Int)) l j).fst,
 (b6 ((0:Int),(0:Int)) l j).snd))
 l.length) =
 d6 N
 (mkN
 (fun(j:Nat) =>
 ((b6 ((0:Int),(0:Int)) l j).fst,
 (b6 ((0:Int),(0:Int)) l j).snd))
 l.length) ∧
 false=false ∧
 (N=N∧l.length=l.length) ∧
 True ∧
 True ∧
 N=N ∧
 IntKind.i64.wrap ((↑x_1:Int) + (1:Int))=(↑x_2:Int) ∧
 True) ∧
 (l.length=l.length ∧
 (∀(j:Nat),
 j < l.length →
 (b6 ((0:Int),(0:Int)) l j).fst =
 (b6 ((0:Int),(0:Int)) l j).fst) ∧
 (∀(j:Nat),
 j < l.length →
 (b6 ((0:Int),(0:Int)) l j).snd =
 (b6 ((0:Int),(0:Int)) l j).snd) ∧
 True) ∧
 (N=N∧l.length=l.length) ∧
 (∀(x y:Int),
 wF
 (d5
 (mkN
 (fun(j:Nat) =>
 ((b6 ((0:Int),(0:Int)) l j).fst,
 (b6 ((0:Int),(0:Int)) l j).snd))
 l.length))
 N.toNat x y =
 wF
 (d5
 (mkN
 (fun(j:Nat) =>
 ((b6 ((0:Int),(0:Int)) l j).fst,
 (b6 ((0:Int),(0:Int)) l j).snd))
 l.length))
 N.toNat x y) ∧
 True)) ∧
 (decide ((↑x_1:Int) < N)=false→true=(d6 N l && a2l N.toNat (wF (d5 l) N.toNat))))):=by kernel_rfl
theorem v63 (N:Int) (l:List Pq) (hl:L9 l):n7 (tab [b7r [],c3s []] [(0,.of (b6f N.toNat (wF (d5 l) N.toNat) 12))]) Tryz.f63 [rlV N 0 l] [arP l] (j9 (.b (d6 N l && a2l N.toNat (wF (d5 l) N.toNat)))):=by
 rw[d64]
 simp only[eq_self,true_and,and_true,z0n,imp_self,l7,l8,g7,g9,PLoop.of,p9,AV.len,a5w,lWm,lWa,lWb,b6f]
 refine⟨hl,fun h=>?_,fun h=>?_⟩
 ·have hv:d6 N l=false:=by simpa using h
  rw[hv]; rfl
 ·have hv:d6 N l=true:=by simpa using h
  obtain⟨h1,h2,h3⟩:=w5.1 hv
  rw[hv]
  refine⟨rfl,hl,(),⟨0,by simp[a2l],rfl⟩,fun i hi=>⟨fun hlt=>?_,fun hlt=>?_⟩⟩
  ·have hlt2:=z0e hlt
   refine⟨fun hc=>?_,fun hc=>?_⟩
   ·have e:a2l N.toNat (wF (d5 l) N.toNat)=false:=by
     rw[a2l,List.all_eq_false]
     exact⟨i,z2t.2 (by omega),by rw[hc]; simp⟩
    rw[e]; rfl
   ·exact⟨i + 1,⟨by omega,by rw[a2l,List.range_succ,List.all_append]; rw[a2l] at hi; rw[hi.2]; simp[hc]⟩,by omega,wrS (n:=64) (by omega) (by omega)⟩
  ·have hlt2:=z0m hlt
   have e:i=N.toNat:=by omega
   have hi3:=hi.2
   rw[e] at hi3
   rw[hi3]; rfl
theorem c75 {N:Int} {f:Pf}:b7 N (m7 N.toNat (q8 N.toNat f))=b7 N f:=a73 fun a b ha hb=>c5g (by omega) (by omega)
theorem d1r (N:Int) (l:List Pq):(n7 (tab [b7r [],c3s [],b7q []] []) Tryz.f110 [rlV N 0 l] [arP l] (a35 (a83 (bif d6 N l then N else 0) (i4 (d6 N l) (b7 N (wF (d5 l) N.toNat))).length) 67 (i4 (d6 N l) (b7 N (wF (d5 l) N.toNat))).length (a0e (i4 (d6 N l) (b7 N (wF (d5 l) N.toNat))))))=(l.length=l.length ∧
 (mkN (fun(j:Nat)=>((b6 ((0:Int),(0:Int)) l j).fst,(b6 ((0:Int),(0:Int)) l j).snd))
 l.length).length ≤
 (1099511627776:Nat) ∧
 ((!d6 N
 (mkN (fun(j:Nat)=>((b6 ((0:Int),(0:Int)) l j).fst,(b6 ((0:Int),(0:Int)) l j).snd))
 l.length)) =
 true →
 (i4 (d6 N l) (b7 N (wF (d5 l) N.toNat))).length=(0:Nat) ∧
 ((0:Int)=bif d6 N l then N else(0:Int)) ∧
 (i4 (d6 N l) (b7 N (wF (d5 l) N.toNat))).length=(0:Nat)∧True) ∧
 ((!d6 N
 (mkN (fun(j:Nat)=>((b6 ((0:Int),(0:Int)) l j).fst,(b6 ((0:Int),(0:Int)) l j).snd))
 l.length)) =
 false →
 l.length=l.length ∧
 d6 N
 (mkN (fun(j:Nat)=>((b6 ((0:Int),(0:Int)) l j).fst,(b6 ((0:Int),(0:Int)) l j).snd))
 l.length) =
 true ∧
 (mkN (fun(j:Nat)=>((b6 ((0:Int),(0:Int)) l j).fst,(b6 ((0:Int),(0:Int)) l j).snd))
 l.length).length ≤
 (1099511627776:Nat) ∧
 ((0:Int)≤N∧N≤(64:Int)) ∧
 (AV.ps
 (b7 N
 (wF
 (d5
 (mkN
 (fun(j:Nat) =>
 ((b6 ((0:Int),(0:Int)) l j).fst,(b6 ((0:Int),(0:Int)) l j).snd))
 l.length))
 N.toNat))).len =
 (i4 (d6 N l) (b7 N (wF (d5 l) N.toNat))).length ∧
 ((∀(j:Nat),
 j < (i4 (d6 N l) (b7 N (wF (d5 l) N.toNat))).length →
 (b6 ((0:Int),(0:Int))
 (b7 N
 (wF
 (d5
 (mkN
 (fun(j:Nat) =>
 ((b6 ((0:Int),(0:Int)) l j).fst,
 (b6 ((0:Int),(0:Int)) l j).snd))
 l.length))
 N.toNat))
 j).fst =
 (b6 ((0:Int),(0:Int)) (i4 (d6 N l) (b7 N (wF (d5 l) N.toNat))) j).fst) ∧
 (∀(j:Nat),
 j < (i4 (d6 N l) (b7 N (wF (d5 l) N.toNat))).length →
 (b6 ((0:Int),(0:Int))
 (b7 N
 (wF
 (d5
 (mkN
 (fun(j:Nat) =>
 ((b6 ((0:Int),(0:Int)) l j).fst,
 (b6 ((0:Int),(0:Int)) l j).snd))
 l.length))
 N.toNat))
 j).snd =
 (b6 ((0:Int),(0:Int)) (i4 (d6 N l) (b7 N (wF (d5 l) N.toNat))) j).snd) ∧
 True) ∧
 (N=bif d6 N l then N else(0:Int)) ∧
 (AV.ps
 (b7 N
 (wF
 (d5
 (mkN
 (fun(j:Nat) =>
 ((b6 ((0:Int),(0:Int)) l j).fst,(b6 ((0:Int),(0:Int)) l j).snd))
 l.length))
 N.toNat))).len =
 (i4 (d6 N l) (b7 N (wF (d5 l) N.toNat))).length ∧
 True)):=by kernel_rfl
theorem v110 (N:Int) (l:List Pq) (hl:L9 l):n7 (tab [b7r [],c3s [],b7q []] []) Tryz.f110 [rlV N 0 l] [arP l] (a35 (a83 (bif d6 N l then N else 0) (i4 (d6 N l) (b7 N (wF (d5 l) N.toNat))).length) 67 (i4 (d6 N l) (b7 N (wF (d5 l) N.toNat))).length (a0e (i4 (d6 N l) (b7 N (wF (d5 l) N.toNat))))):=by
 rw[d1r]
 simp only[eq_self,true_and,and_true,z0n,imp_self,l7,l8,g7,g9,PLoop.of,p9,AV.len,a5w,lWm,lWa,lWb,b6f]
 refine⟨hl,fun h=>?_,fun h=>?_⟩
 ·have hv:d6 N l=false:=by simpa using h
  simp[hv,i4]
 ·have hv:d6 N l=true:=by simpa using h
  obtain⟨h1,h2,h3⟩:=w5.1 hv
  rw[hv]
  simp only[i4,z0g,eq_self,true_and,and_true,z0n,a5w]
  exact⟨hl,h1,h2⟩
theorem d5i (N:Int) (l:List Pq):(n7 (tab [b68 [],d4f [],d59 []] []) Tryz.f59 [rlV N 0 l] [arP l] (a35 (a83 (bif d6 N l then N else 0) (i4 (d6 N l) (b7 N (wF (d5 l) N.toNat))).length) 67 (i4 (d6 N l) (b7 N (wF (d5 l) N.toNat))).length (a0e (i4 (d6 N l) (b7 N (wF (d5 l) N.toNat))))))=(l.length=l.length ∧
 (mkN (fun(j:Nat)=>((b6 ((0:Int),(0:Int)) l j).fst,(b6 ((0:Int),(0:Int)) l j).snd))
 l.length).length ≤
 (1099511627776:Nat) ∧
 ((!d6 N
 (mkN (fun(j:Nat)=>((b6 ((0:Int),(0:Int)) l j).fst,(b6 ((0:Int),(0:Int)) l j).snd))
 l.length)) =
 true →
 (i4 (d6 N l) (b7 N (wF (d5 l) N.toNat))).length=(0:Nat) ∧
 ((0:Int)=bif d6 N l then N else(0:Int)) ∧
 (i4 (d6 N l) (b7 N (wF (d5 l) N.toNat))).length=(0:Nat)∧True) ∧
 ((!d6 N
 (mkN (fun(j:Nat)=>((b6 ((0:Int),(0:Int)) l j).fst,(b6 ((0:Int),(0:Int)) l j).snd))
 l.length)) =
 false →
 l.length=l.length ∧
 d6 N
 (mkN (fun(j:Nat)=>((b6 ((0:Int),(0:Int)) l j).fst,(b6 ((0:Int),(0:Int)) l j).snd))
 l.length) =
 true ∧
 (mkN (fun(j:Nat)=>((b6 ((0:Int),(0:Int)) l j).fst,(b6 ((0:Int),(0:Int)) l j).snd))
 l.length).length ≤
 (1099511627776:Nat) ∧
 (AV.bs
 (q8 N.toNat
 (wF
 (d5
 (mkN
 (fun(j:Nat) =>
 ((b6 ((0:Int),(0:Int)) l j).fst,(b6 ((0:Int),(0:Int)) l j).snd))
 l.length))
 N.toNat))).len =
 (AV.bs
 (q8 N.toNat
 (wF
 (d5
 (mkN
 (fun(j:Nat) =>
 ((b6 ((0:Int),(0:Int)) l j).fst,(b6 ((0:Int),(0:Int)) l j).snd))
 l.length))
 N.toNat))).len ∧
 ((0:Int)≤N∧N≤(64:Int)) ∧
 (mkN
 (b6 false
 (q8 N.toNat
 (wF
 (d5
 (mkN
 (fun(j:Nat) =>
 ((b6 ((0:Int),(0:Int)) l j).fst,(b6 ((0:Int),(0:Int)) l j).snd))
 l.length))
 N.toNat)))
 (AV.bs
 (q8 N.toNat
 (wF
 (d5
 (mkN
 (fun(j:Nat) =>
 ((b6 ((0:Int),(0:Int)) l j).fst,(b6 ((0:Int),(0:Int)) l j).snd))
 l.length))
 N.toNat))).len).length =
 N.toNat * N.toNat ∧
 (AV.ps
 (b7 N
 (m7 N.toNat
 (mkN
 (b6 false
 (q8 N.toNat
 (wF
 (d5
 (mkN
 (fun(j:Nat) =>
 ((b6 ((0:Int),(0:Int)) l j).fst,
 (b6 ((0:Int),(0:Int)) l j).snd))
 l.length))
 N.toNat)))
 (AV.bs
 (q8 N.toNat
 (wF
 (d5
 (mkN
 (fun(j:Nat) =>
 ((b6 ((0:Int),(0:Int)) l j).fst,
 (b6 ((0:Int),(0:Int)) l j).snd))
 l.length))
 N.toNat))).len)))).len =
 (i4 (d6 N l) (b7 N (wF (d5 l) N.toNat))).length ∧
 ((∀(j:Nat),
 j < (i4 (d6 N l) (b7 N (wF (d5 l) N.toNat))).length →
 (b6 ((0:Int),(0:Int))
 (b7 N
 (m7 N.toNat
 (mkN
 (b6 false
 (q8 N.toNat
 (wF
 (d5
 (mkN
 (fun(j:Nat) =>
 ((b6 ((0:Int),(0:Int)) l j).fst,
 (b6 ((0:Int),(0:Int)) l j).snd))
 l.length))
 N.toNat)))
 (AV.bs
 (q8 N.toNat
 (wF
 (d5
 (mkN
 (fun(j:Nat) =>
 ((b6 ((0:Int),(0:Int)) l j).fst,
 (b6 ((0:Int),(0:Int)) l j).snd))
 l.length))
 N.toNat))).len)))
 j).fst =
 (b6 ((0:Int),(0:Int)) (i4 (d6 N l) (b7 N (wF (d5 l) N.toNat)))
 j).fst) ∧
 (∀(j:Nat),
 j < (i4 (d6 N l) (b7 N (wF (d5 l) N.toNat))).length →
 (b6 ((0:Int),(0:Int))
 (b7 N
 (m7 N.toNat
 (mkN
 (b6 false
 (q8 N.toNat
 (wF
 (d5
 (mkN
 (fun(j:Nat) =>
 ((b6 ((0:Int),(0:Int)) l j).fst,
 (b6 ((0:Int),(0:Int)) l j).snd))
 l.length))
 N.toNat)))
 (AV.bs
 (q8 N.toNat
 (wF
 (d5
 (mkN
 (fun(j:Nat) =>
 ((b6 ((0:Int),(0:Int)) l j).fst,
 (b6 ((0:Int),(0:Int)) l j).snd))
 l.length))
 N.toNat))).len)))
 j).snd =
 (b6 ((0:Int),(0:Int)) (i4 (d6 N l) (b7 N (wF (d5 l) N.toNat)))
 j).snd) ∧
 True) ∧
 (N=bif d6 N l then N else(0:Int)) ∧
 (AV.ps
 (b7 N
 (m7 N.toNat
 (mkN
 (b6 false
 (q8 N.toNat
 (wF
 (d5
 (mkN
 (fun(j:Nat) =>
 ((b6 ((0:Int),(0:Int)) l j).fst,
 (b6 ((0:Int),(0:Int)) l j).snd))
 l.length))
 N.toNat)))
 (AV.bs
 (q8 N.toNat
 (wF
 (d5
 (mkN
 (fun(j:Nat) =>
 ((b6 ((0:Int),(0:Int)) l j).fst,
 (b6 ((0:Int),(0:Int)) l j).snd))
 l.length))
 N.toNat))).len)))).len =
 (i4 (d6 N l) (b7 N (wF (d5 l) N.toNat))).length ∧
 True)):=by kernel_rfl
theorem v59 (N:Int) (l:List Pq) (hl:L9 l):n7 (tab [b68 [],d4f [],d59 []] []) Tryz.f59 [rlV N 0 l] [arP l] (a35 (a83 (bif d6 N l then N else 0) (i4 (d6 N l) (b7 N (wF (d5 l) N.toNat))).length) 67 (i4 (d6 N l) (b7 N (wF (d5 l) N.toNat))).length (a0e (i4 (d6 N l) (b7 N (wF (d5 l) N.toNat))))):=by
 rw[d5i]
 simp only[eq_self,true_and,and_true,z0n,imp_self,l7,l8,g7,g9,PLoop.of,p9,AV.len,lWm,lWa,lWb,b6f]
 refine⟨hl,fun h=>?_,fun h=>?_⟩
 ·have hv:d6 N l=false:=by simpa using h
  simp[hv,i4]
 ·have hv:d6 N l=true:=by simpa using h
  obtain⟨h1,h2,h3⟩:=w5.1 hv
  rw[hv]
  rw[c75]
  simp only[i4,z0g,eq_self,true_and,and_true,z0n,a5w]
  exact⟨hl,h1,h2⟩
theorem d7w:o6 Tryz.prog 116:=⟨Tryz.f116,Tryz.func116,by kernel_rfl,by kernel_rfl⟩
theorem fo63:o6 Tryz.prog 63:=⟨Tryz.f63,Tryz.func63,by kernel_rfl,by kernel_rfl⟩
theorem d8e:o6 Tryz.prog 110:=⟨Tryz.f110,Tryz.func110,by kernel_rfl,by kernel_rfl⟩
theorem fo59:o6 Tryz.prog 59:=⟨Tryz.f59,Tryz.func59,by kernel_rfl,by kernel_rfl⟩
def d72:List AV→Tab
 | [.r N l]=>tab [d6c [none,none,none,some (.bs (q8 N.toNat (d5 l)))]] [(0,.of (lWm N.toNat (d5 l) 5 3)),(2,lWa N.toNat (d5 l) 6 3),(4,lWb N.toNat (d5 l) 7 3)]
 | _=>tab [] []
theorem c116:CallOk Tryz.prog [] 116 (a07 EL [] [.r] c8s):=by
 refine okT (fn:=Tryz.f116) Tryz.func116 d7w d72 (fun av=>?_) (fun av=>?_) (fun av pre rv h=>?_) (fun av pre rv h hp=>?_)
 ·unfold d72; split <;> first | exact a22 (a82 (n149 _) a3w) | exact a22 a3w
 ·unfold d72; split <;> exact⟨rfl,rfl⟩
 ·unfold c8s at h; split at h <;> cases h
  exact⟨rfl,fun t a e=>by cases e <;> exact z0h _ _⟩
 ·unfold c8s at h; split at h <;> cases h
  exact v116 _ _ (hp _ (.head _)) (hp _ (.tail _ (.head _)))
theorem n116 (nm:List (Option AV)):CallOk Tryz.prog [] 116 (a07 EL nm [.r] c8s):=a59 c116
def t63:List AV→Tab
 | [.r N l]=>tab [b7r [],c3s []] [(0,.of (b6f N.toNat (wF (d5 l) N.toNat) 12))]
 | _=>tab [] []
theorem c63:CallOk Tryz.prog [] 63 (a07 EL [] [.r] c70):=by
 refine okT (fn:=Tryz.f63) Tryz.func63 fo63 t63 (fun av=>?_) (fun av=>?_) (fun av pre rv h=>?_) (fun av pre rv h hp=>?_)
 ·unfold t63; split <;> first | exact a22 (a82 (d45 _) (a82 (n120 _) a3w)) | exact a22 a3w
 ·unfold t63; split <;> exact⟨rfl,rfl⟩
 ·unfold c70 at h; split at h <;> cases h
  exact⟨rfl,fun t a e=>by cases e <;> exact z0h _ _⟩
 ·unfold c70 at h; split at h <;> cases h
  exact v63 _ _ (hp _ (.head _))
theorem n63 (nm:List (Option AV)):CallOk Tryz.prog [] 63 (a07 EL nm [.r] c70):=a59 c63
def d5l:List AV→Tab
 | [.r N l]=>tab [b7r [],c3s [],b7q []] []
 | _=>tab [] []
theorem c110:CallOk Tryz.prog [] 110 (a07 EL [] [.r] b51):=by
 refine okT (fn:=Tryz.f110) Tryz.func110 d8e d5l (fun av=>?_) (fun av=>?_) (fun av pre rv h=>?_) (fun av pre rv h hp=>?_)
 ·unfold d5l; split <;> first | exact a22 (a82 (d45 _) (a82 (n120 _) (a82 (d6y _) a3w))) | exact a22 a3w
 ·unfold d5l; split <;> exact⟨rfl,rfl⟩
 ·unfold b51 at h; split at h <;> cases h
  exact⟨rfl,fun t a e=>by cases e <;> exact z0h _ _⟩
 ·unfold b51 at h; split at h <;> cases h
  exact v110 _ _ (hp _ (.head _))
theorem n110 (nm:List (Option AV)):CallOk Tryz.prog [] 110 (a07 EL nm [.r] b51):=a59 c110
def t59:List AV→Tab
 | [.r N l]=>tab [b68 [],d4f [],d59 []] []
 | _=>tab [] []
theorem c59:CallOk Tryz.prog [] 59 (a07 EL [] [.r] b51):=by
 refine okT (fn:=Tryz.f59) Tryz.func59 fo59 t59 (fun av=>?_) (fun av=>?_) (fun av pre rv h=>?_) (fun av pre rv h hp=>?_)
 ·unfold t59; split <;> first | exact a22 (a82 (n103 _) (a82 (n116 _) (a82 (n115 _) a3w))) | exact a22 a3w
 ·unfold t59; split <;> exact⟨rfl,rfl⟩
 ·unfold b51 at h; split at h <;> cases h
  exact⟨rfl,fun t a e=>by cases e <;> exact z0h _ _⟩
 ·unfold b51 at h; split at h <;> cases h
  exact v59 _ _ (hp _ (.head _))
theorem n59 (nm:List (Option AV)):CallOk Tryz.prog [] 59 (a07 EL nm [.r] b51):=a59 c59
abbrev SpP:=List PV→Option (List Prop × QV)
theorem a1f {G:List (Nat × Nat)} {f:Nat} {F:List MBlk→List SV→Option AR} (h:CallOk Tryz.prog [] f F):CallOk Tryz.prog G f F:=⟨h.fn,fun ρ W m vs xs ar _ h2 h3 h4 h5 h6 h7=>h.ok ρ W m vs xs ar (fun g r hg=>by cases hg) h2 h3 h4 h5 h6 h7⟩
def plB (b:Bool):QV:=.rv (.pl (.b b))
def plI (n:Int):QV:=.rv (.pl (.i .i64 n))
def sI1 (f:Int→Bool):SpP:=fun | [.lf (.i n)]=>some ([],plB (f n)) | _=>none
def sI2 (f:Int→Int→Bool):SpP:=fun | [.lf (.i n),.lf (.i m)]=>some ([],plB (f n m)) | _=>none
def sE1 (f:Ev→Bool):SpP:=fun | [.lf (.ev e)]=>some ([],plB (f e)) | _=>none
def b75 (f:Ev→Int):SpP:=fun | [.lf (.ev e)]=>some ([],plI (f e)) | _=>none
def sE2 (f:Ev→Ev→Bool):SpP:=fun | [.lf (.ev e),.lf (.ev d)]=>some ([],plB (f e d)) | _=>none
def kI1 (n:Nat) (f:Int→Bool):Nat × (List MBlk→List SV→Option AR):=(n,o5 EL none [] [.lf .i] (sI1 f))
def kI2 (n:Nat) (f:Int→Int→Bool):Nat × (List MBlk→List SV→Option AR):=(n,o5 EL none [] [.lf .i,.lf .i] (sI2 f))
def kE1 (n:Nat) (f:Ev→Bool):Nat × (List MBlk→List SV→Option AR):=(n,o5 EL none [] [.lf .ev] (sE1 f))
def d0p (n:Nat) (f:Ev→Int):Nat × (List MBlk→List SV→Option AR):=(n,o5 EL none [] [.lf .ev] (b75 f))
def kE2 (n:Nat) (f:Ev→Ev→Bool):Nat × (List MBlk→List SV→Option AR):=(n,o5 EL none [] [.lf .ev,.lf .ev] (sE2 f))
def a2t (n:Int):Bool:=decide (n < 0)
theorem d92:o6 Tryz.prog 125:=⟨Tryz.f125,Tryz.func125,by kernel_rfl,by kernel_rfl⟩
theorem d8n:o6 Tryz.prog 152:=⟨Tryz.f152,Tryz.func152,by kernel_rfl,by kernel_rfl⟩
theorem d8g:o6 Tryz.prog 130:=⟨Tryz.f130,Tryz.func130,by kernel_rfl,by kernel_rfl⟩
theorem d96:o6 Tryz.prog 129:=⟨Tryz.f129,Tryz.func129,by kernel_rfl,by kernel_rfl⟩
theorem d8f:o6 Tryz.prog 153:=⟨Tryz.f153,Tryz.func153,by kernel_rfl,by kernel_rfl⟩
theorem d7h:o6 Tryz.prog 131:=⟨Tryz.f131,Tryz.func131,by kernel_rfl,by kernel_rfl⟩
theorem d7v:o6 Tryz.prog 132:=⟨Tryz.f132,Tryz.func132,by kernel_rfl,by kernel_rfl⟩
theorem d8z:o6 Tryz.prog 126:=⟨Tryz.f126,Tryz.func126,by kernel_rfl,by kernel_rfl⟩
theorem d8p:o6 Tryz.prog 127:=⟨Tryz.f127,Tryz.func127,by kernel_rfl,by kernel_rfl⟩
theorem d95:o6 Tryz.prog 128:=⟨Tryz.f128,Tryz.func128,by kernel_rfl,by kernel_rfl⟩
theorem fo85:o6 Tryz.prog 85:=⟨Tryz.f85,Tryz.func85,by kernel_rfl,by kernel_rfl⟩
theorem d7o:o6 Tryz.prog 123:=⟨Tryz.f123,Tryz.func123,by kernel_rfl,by kernel_rfl⟩
def d3b (n:Int):Prop:=n7 (({}:Kit)).tab Tryz.f125 [.i .i64 n] [] (j9 (.b (a2t n)))
theorem d2o (n:Int):d3b n=(decide (n < (0:Int))=a2t n):=by kernel_rfl
theorem v125 (n:Int) :d3b n:=by
 rw[d2o]
 rfl
def d3e (n:Int):Prop:=n7 (({}:Kit)).tab Tryz.f152 [.i .i64 n] [] (j9 (.b (a2t n)))
theorem d04 (n:Int):d3e n=(decide (n < (0:Int))=a2t n):=by kernel_rfl
theorem v152 (n:Int) :d3e n:=by
 rw[d04]
 rfl
def d34 (n:Int):Prop:=n7 (({}:Kit)).tab Tryz.f130 [.i .i64 n] [] (j9 (.b (a1e n)))
theorem c9n (n:Int):d34 n=((decide (n ≥ (-2147483648:Int)) && decide (n≤(2147483647:Int)))=a1e n):=by kernel_rfl
theorem v130 (n:Int) :d34 n:=by
 rw[c9n]
 rfl
def d39 (n:Int):Prop:=n7 (({}:Kit)).tab Tryz.f129 [.i .i64 n] [] (j9 (.b (a4m n)))
theorem d15 (n:Int):d39 n=((n == (1:Int) || n == (2:Int) || n == (3:Int) || n == (5:Int) || n == (6:Int) || n == (8:Int))=a4m n):=by kernel_rfl
theorem v129 (n:Int) :d39 n:=by
 rw[d15]
 rfl
def d3f (n:Int):Prop:=n7 (({}:Kit)).tab Tryz.f153 [.i .i64 n] [] (j9 (.b (a05 n)))
theorem d14 (n:Int):d3f n=((n == (1:Int) || n == (8:Int) || n == (5:Int) || n == (6:Int))=a05 n):=by kernel_rfl
theorem v153 (n:Int) :d3f n:=by
 rw[d14]
 rfl
def d3p (n:Int):Prop:=n7 (({}:Kit)).tab Tryz.f131 [.i .i64 n] [] (j9 (.b (a0d n)))
theorem d0c (n:Int):d3p n=((n == (2:Int) || n == (3:Int) || n == (4:Int) || n == (5:Int))=a0d n):=by kernel_rfl
theorem v131 (n:Int) :d3p n:=by
 rw[d0c]
 rfl
def d3a (n m:Int):Prop:=n7 (({}:Kit)).tab Tryz.f132 [.i .i64 n,.i .i64 m] [] (j9 (.b (t7 n m)))
theorem c9g (n m:Int):d3a n m=((decide (n ≥ (0:Int)) && decide (n < m))=t7 n m):=by kernel_rfl
theorem v132 (n m:Int) :d3a n m:=by
 rw[c9g]
 rfl
def d3j (e:Ev):Prop:=n7 (({ calls:=[kI2 132 t7] }:Kit)).tab Tryz.f126 [a5y e] [] (j9 (.b (a1p e)))
theorem d1d (e:Ev):d3j e=(((e.k == (7:Int))=true→(e.ob == (0:Int))=a1p e)∧((e.k == (7:Int))=false→((e.k == (9:Int))=true→t7 e.ob (4:Int)=a1p e)∧((e.k == (9:Int))=false→((e.k == (10:Int))=true→t7 e.ob (4:Int)=a1p e)∧((e.k == (10:Int))=false→((e.k == (11:Int))=true→t7 e.ob (4:Int)=a1p e)∧((e.k == (11:Int))=false→((e.k == (12:Int))=true→t7 e.ob (4:Int)=a1p e)∧((e.k == (12:Int))=false→((e.k == (13:Int))=true→t7 e.ob (4:Int)=a1p e)∧((e.k == (13:Int))=false→((e.k == (14:Int))=true→t7 e.ob (4:Int)=a1p e)∧((e.k == (14:Int))=false→((e.k == (15:Int))=true→t7 e.ob (4:Int)=a1p e)∧((e.k == (15:Int))=false→((e.k == (16:Int))=true→decide (e.ob ≥ (0:Int))=a1p e)∧((e.k == (16:Int))=false→((e.k == (17:Int))=true→decide (e.ob ≥ (0:Int))=a1p e)∧((e.k == (17:Int))=false→t7 e.ob (8:Int)=a1p e))))))))))):=by kernel_rfl
theorem v126 (e:Ev) :d3j e:=by
 rw[d1d]
 simp only[a1p]; grind
def d30 (e:Ev):Prop:=n7 (({ calls:=[kI2 132 t7,kI1 130 a1e,kI1 153 a05] }:Kit)).tab Tryz.f127 [a5y e] [] (j9 (.b (a3m e)))
theorem c9k (e:Ev):d30 e=(((e.k == (11:Int))=true→t7 e.rd (2:Int)=a3m e)∧((e.k == (11:Int))=false→((e.k == (14:Int))=true→t7 e.rd (2:Int)=a3m e)∧((e.k == (14:Int))=false→((e.k == (15:Int))=true→decide (e.rd ≥ (0:Int))=a3m e)∧((e.k == (15:Int))=false→(a1e e.rd && (a05 e.k || e.rd == (0:Int)))=a3m e)))):=by kernel_rfl
theorem v127 (e:Ev) :d30 e:=by
 rw[c9k]
 simp only[a3m]; grind
def d31 (e:Ev):Prop:=n7 (({}:Kit)).tab Tryz.f128 [a5y e] [] (j9 (.b (a3c e)))
theorem d2a (e:Ev):d31 e=(((e.k == (1:Int))=true→decide (e.en ≥ (-1:Int))=a3c e)∧((e.k == (1:Int))=false→((e.k == (8:Int))=true→decide (e.en ≥ (-1:Int))=a3c e)∧((e.k == (8:Int))=false→((e.k == (3:Int))=true→decide (e.en ≥ (0:Int))=a3c e)∧((e.k == (3:Int))=false→((e.k == (4:Int))=true→decide (e.en ≥ (0:Int))=a3c e)∧((e.k == (4:Int))=false→(e.en == (-1:Int))=a3c e))))):=by kernel_rfl
theorem v128 (e:Ev) :d31 e:=by
 rw[d2a]
 simp only[a3c]; grind
def q85D (e:Ev):Prop:=n7 (({ calls:=[kI2 132 t7,kI1 130 a1e,kI1 153 a05,kI1 125 a2t,kI1 129 a4m,kI1 131 a0d,kE1 126 a1p,kE1 127 a3m,kE1 128 a3c] }:Kit)).tab Tryz.f85 [a5y e] [] (j9 (.b (q7 e)))
theorem d5u (e:Ev):q85D e=(((decide (e.k < (1:Int)) || decide (e.k > (17:Int)) || !a2t e.ag == (e.k == (4:Int)) || decide (e.ix < (0:Int)) || !a1p e || !a3m e || !a3c e)=true→false=q7 e)∧((decide (e.k < (1:Int)) || decide (e.k > (17:Int)) || !a2t e.ag == (e.k == (4:Int)) || decide (e.ix < (0:Int)) || !a1p e || !a3m e || !a3c e)=false→((decide (e.od < (0:Int)) || decide (e.od > (2:Int)) || !a4m e.k && e.od != (0:Int) || !a1e e.wr || !a0d e.k && e.wr != (0:Int))=true→false=q7 e)∧((decide (e.od < (0:Int)) || decide (e.od > (2:Int)) || !a4m e.k && e.od != (0:Int) || !a1e e.wr || !a0d e.k && e.wr != (0:Int))=false→((e.k == (12:Int))=true→t7 e.mu (4:Int)=q7 e)∧((e.k == (12:Int))=false→(e.mu == (-1:Int))=q7 e)))):=by kernel_rfl
theorem v85 (e:Ev) :q85D e:=by
 rw[d5u]
 simp only[z0n,true_and,and_true,if_true,a2t]
 obtain⟨ag,ix,k,ob,mu,en,od,rd,wr⟩:=e
 simp only[q7] <;> grind
theorem n125 (nm:List (Option AV)):CallOk Tryz.prog [] 125 (o5 EL none nm [.lf .i] (sI1 a2t)):=x4 Tryz.func125 d92 fun av pre rv h=>by
 unfold sI1 at h; split at h <;> cases h
 exact⟨⟨rfl,fun t a e=>by cases e <;> exact z0h _ _⟩,fun hp=>⟨_,v125 _ ,rfl,t8,t9⟩⟩
theorem n152 (nm:List (Option AV)):CallOk Tryz.prog [] 152 (o5 EL none nm [.lf .i] (sI1 a2t)):=x4 Tryz.func152 d8n fun av pre rv h=>by
 unfold sI1 at h; split at h <;> cases h
 exact⟨⟨rfl,fun t a e=>by cases e <;> exact z0h _ _⟩,fun hp=>⟨_,v152 _ ,rfl,t8,t9⟩⟩
theorem n130 (nm:List (Option AV)):CallOk Tryz.prog [] 130 (o5 EL none nm [.lf .i] (sI1 a1e)):=x4 Tryz.func130 d8g fun av pre rv h=>by
 unfold sI1 at h; split at h <;> cases h
 exact⟨⟨rfl,fun t a e=>by cases e <;> exact z0h _ _⟩,fun hp=>⟨_,v130 _ ,rfl,t8,t9⟩⟩
theorem n129 (nm:List (Option AV)):CallOk Tryz.prog [] 129 (o5 EL none nm [.lf .i] (sI1 a4m)):=x4 Tryz.func129 d96 fun av pre rv h=>by
 unfold sI1 at h; split at h <;> cases h
 exact⟨⟨rfl,fun t a e=>by cases e <;> exact z0h _ _⟩,fun hp=>⟨_,v129 _ ,rfl,t8,t9⟩⟩
theorem n153 (nm:List (Option AV)):CallOk Tryz.prog [] 153 (o5 EL none nm [.lf .i] (sI1 a05)):=x4 Tryz.func153 d8f fun av pre rv h=>by
 unfold sI1 at h; split at h <;> cases h
 exact⟨⟨rfl,fun t a e=>by cases e <;> exact z0h _ _⟩,fun hp=>⟨_,v153 _ ,rfl,t8,t9⟩⟩
theorem n131 (nm:List (Option AV)):CallOk Tryz.prog [] 131 (o5 EL none nm [.lf .i] (sI1 a0d)):=x4 Tryz.func131 d7h fun av pre rv h=>by
 unfold sI1 at h; split at h <;> cases h
 exact⟨⟨rfl,fun t a e=>by cases e <;> exact z0h _ _⟩,fun hp=>⟨_,v131 _ ,rfl,t8,t9⟩⟩
theorem d5x (nm:List (Option AV)):CallOk Tryz.prog [] 132 (o5 EL none nm [.lf .i,.lf .i] (sI2 t7)):=x4 Tryz.func132 d7v fun av pre rv h=>by
 unfold sI2 at h; split at h <;> cases h
 exact⟨⟨rfl,fun t a e=>by cases e <;> exact z0h _ _⟩,fun hp=>⟨_,v132 _ _ ,rfl,t8,t9⟩⟩
theorem n126 (nm:List (Option AV)):CallOk Tryz.prog [] 126 (o5 EL none nm [.lf .ev] (sE1 a1p)):=x4 Tryz.func126 d8z fun av pre rv h=>by
 unfold sE1 at h; split at h <;> cases h
 exact⟨⟨rfl,fun t a e=>by cases e <;> exact z0h _ _⟩,fun hp=>⟨_,v126 _ ,rfl,(m6 (d5x _) t8),t9⟩⟩
theorem n127 (nm:List (Option AV)):CallOk Tryz.prog [] 127 (o5 EL none nm [.lf .ev] (sE1 a3m)):=x4 Tryz.func127 d8p fun av pre rv h=>by
 unfold sE1 at h; split at h <;> cases h
 exact⟨⟨rfl,fun t a e=>by cases e <;> exact z0h _ _⟩,fun hp=>⟨_,v127 _ ,rfl,(m6 (d5x _) (m6 (n130 _) (m6 (n153 _) t8))),t9⟩⟩
theorem n128 (nm:List (Option AV)):CallOk Tryz.prog [] 128 (o5 EL none nm [.lf .ev] (sE1 a3c)):=x4 Tryz.func128 d95 fun av pre rv h=>by
 unfold sE1 at h; split at h <;> cases h
 exact⟨⟨rfl,fun t a e=>by cases e <;> exact z0h _ _⟩,fun hp=>⟨_,v128 _ ,rfl,t8,t9⟩⟩
theorem n85 (nm:List (Option AV)):CallOk Tryz.prog [] 85 (o5 EL none nm [.lf .ev] (sE1 q7)):=x4 Tryz.func85 fo85 fun av pre rv h=>by
 unfold sE1 at h; split at h <;> cases h
 exact⟨⟨rfl,fun t a e=>by cases e <;> exact z0h _ _⟩,fun hp=>⟨_,v85 _ ,rfl,(m6 (d5x _) (m6 (n130 _) (m6 (n153 _) (m6 (n125 _) (m6 (n129 _) (m6 (n131 _) (m6 (n126 _) (m6 (n127 _) (m6 (n128 _) t8))))))))),t9⟩⟩
end Go.Proofs.YtaeeaniofljmnaaGreatDoor

/-
  A part of the proof (H35a).
-/
import Derived.Test.YtaeeaniofljmnaaGreatDoorH31a
namespace Go.Proofs.YtaeeaniofljmnaaGreatDoor
set_option linter.unusedSimpArgs false
set_option linter.unusedVariables false
open Go Go.Proofs.YtaeeaniofljmnaaGreatDoor.Sx
theorem b4d {R:List Int} {x y:Int}:∀ {s:Nat},y∈a2h R x s↔∃ j,j < s∧y=atF R x j:=by
 intro s
 induction s with
 | zero=>simp[a2h]
 | succ s ih =>
  simp only[a2h,z0n,z0t,ih]
  constructor
  ·rintro (⟨j,h1,h2⟩ | h)
   ·exact⟨j,by omega,h2⟩
   ·exact⟨s,by omega,h⟩
  ·rintro ⟨j,h1,h2⟩
   by_cases e:j=s
   ·subst e; exact .inr h2
   ·exact .inl ⟨j,by omega,h2⟩
theorem c8k (R:List Int) (x:Int):∀ s,(a2h R x s).length=s:=by
 intro s
 induction s with
 | zero=>rfl
 | succ s ih=>simp[a2h,ih]
theorem d6n {R:List Int} {x:Int} {s n:Nat} (h:(a2h R x s).Nodup) (hr:∀ j,j < s→0≤atF R x j∧atF R x j < n):s≤n:=by
 have:=b0l (W:=(List.range n).map (fun i:Nat=>(i:Int))) h (fun y hy=>by
  obtain⟨j,h1,rfl⟩:=b4d.1 hy
  obtain⟨h2,h3⟩:=hr j h1
  exact z2h.2 ⟨(atF R x j).toNat,by simp; omega,by omega⟩)
 simpa [c8k] using this
theorem c5i {R:List Int} {x:Int} {s:Nat} (h:(decide (atF R x s ≥ 0) && !(a2h R x s).contains (atF R x s))=true):a4n R x s=false:=by
 simp only[z0d,z1p,z0v] at h
 simp only[a4n,h.2,Bool.or_false,z1g]; omega
theorem c2y {R:List Int} {x:Int} {s:Nat} (h:(decide (atF R x s ≥ 0) && !(a2h R x s).contains (atF R x s))=false):a4n R x s=true:=by
 simp only[Bool.and_eq_false_iff,z1g,Bool.not_eq_false'] at h
 simp only[a4n,z1q,z1p]
 rcases h with h | h
 ·exact .inl (by omega)
 ·exact .inr h
theorem a6s {R:List Int} {x:Int} {f s:Nat} (h:a4n R x s=false):chS R x (f + 1) s=chS R x f (s + 1):=by simp[chS,h]
theorem a8t {R:List Int} {x:Int} {f s:Nat} (h:a4n R x s=true):chS R x (f + 1) s=s:=by simp[chS,h]
theorem c5j (R:List Int) (x:Int):∀ f s,chS R x f s≤s + f:=by
 intro f
 induction f with
 | zero=>intro s; simp[chS]
 | succ f ih =>
  intro s
  cases h:a4n R x s
  ·rw[a6s h]; have:=ih (s + 1); omega
  ·rw[a8t h]; omega
theorem d3k (R:List Int) (x:Int):∀ f s,s≤chS R x f s:=by
 intro f
 induction f with
 | zero=>intro s; simp[chS]
 | succ f ih =>
  intro s
  cases h:a4n R x s
  ·rw[a6s h]; have:=ih (s + 1); omega
  ·rw[a8t h]; omega
theorem b2o {R:List Int} {x:Int}:∀ {f s j:Nat},s≤j→j < chS R x f s→a4n R x j=false:=by
 intro f
 induction f with
 | zero=>intro s j h1 h2; simp[chS] at h2; omega
 | succ f ih =>
  intro s j h1 h2
  cases h:a4n R x s
  ·rw[a6s h] at h2
   by_cases e:j=s
   ·rw[e]; exact h
   ·exact ih (by omega) h2
  ·rw[a8t h] at h2; omega
theorem c5c {E:List Ev} {R:List Int} {x:Int} (hR:b0x E R) (hx:x < E.length):∀ {s:Nat},(∀ j,j < s→0≤atF R x j)→atF R x s < E.length:=by
 intro s
 induction s with
 | zero=>intro _; exact hx
 | succ s ih =>
  intro h
  exact hR.2 _ (h s (by omega)) (ih fun j hj=>h j (by omega))
theorem d0l {E:List Ev} {R:List Int} {x k:Int} {p:Pq}:∀ {s:Nat},p∈swR E R x k s↔∃ j,j < s∧p=(atF R x j,k)∧(evA E (atF R x j)).od=2:=by
 intro s
 induction s with
 | zero=>simp[swR]
 | succ s ih =>
  have key:p∈swR E R x k (s + 1)↔p∈swR E R x k s∨(p=(atF R x s,k)∧(evA E (atF R x s)).od=2):=by
   simp only[swR]
   cases h:(evA E (atF R x s)).od == 2
   ·have:(evA E (atF R x s)).od≠2:=by simpa using h
    simp[this]
   ·have:(evA E (atF R x s)).od=2:=by simpa using h
    simp[this]
  rw[key,ih]
  constructor
  ·rintro (⟨j,h1,h2⟩ | h)
   ·exact⟨j,by omega,h2⟩
   ·exact⟨s,by omega,h⟩
  ·rintro ⟨j,h1,h2⟩
   by_cases e:j=s
   ·subst e; exact .inr h2
   ·exact .inl ⟨j,by omega,h2⟩
theorem c2o (E:List Ev) (R:List Int) (x k:Int):∀ s,(swR E R x k s).length≤s:=by
 intro s
 induction s with
 | zero=>simp[swR]
 | succ s ih=>simp only[swR]; cases(evA E (atF R x s)).od == 2 <;> simp <;> omega
theorem d0j (E:List Ev) (R:List Int) (k:Int):(swK E R k).length≤E.length + 1:=by
 unfold swK
 cases(!rdE (evA E k) || (evA E k).od != 2)
 ·simp only[z0l]
  have h1:=c2o E R (inA R k) k (chS R (inA R k) (E.length + 1) 0)
  have h2:=c5j R (inA R k) (E.length + 1) 0
  omega
 ·simp
theorem d0k (E:List Ev) (R:List Int):∀ k,(swP E R k).length≤k * (E.length + 1):=by
 intro k
 induction k with
 | zero=>simp[swP]
 | succ k ih =>
  have:=d0j E R k
  simp only[swP,z1a,z3g]
  omega
theorem c2n {E:List Ev} {R:List Int} {p:Pq}:∀ {m:Nat},p∈swP E R m↔∃ k:Nat,k < m∧p∈swK E R k:=by
 intro m
 induction m with
 | zero=>simp[swP]
 | succ m ih =>
  simp only[swP,z0n,ih]
  constructor
  ·rintro (⟨j,h1,h2⟩ | h)
   ·exact⟨j,by omega,h2⟩
   ·exact⟨m,by omega,h⟩
  ·rintro ⟨j,h1,h2⟩
   by_cases e:j=m
   ·subst e; exact .inr h2
   ·exact .inl ⟨j,by omega,h2⟩
theorem c2m {E:List Ev} {R:List Int} {k:Int} {p:Pq}:p∈swK E R k↔rdE (evA E k)=true∧(evA E k).od=2∧∃ j,j < chS R (inA R k) (E.length + 1) 0∧p=(atF R (inA R k) j,k)∧(evA E (atF R (inA R k) j)).od=2:=by
 unfold swK
 cases h:(!rdE (evA E k) || (evA E k).od != 2)
 ·simp at h
  simp only[z0l,d0l]
  exact⟨fun x=>⟨h.1,h.2,x⟩,fun x=>x.2.2⟩
 ·simp at h
  simp only[z0g,List.not_mem_nil,false_iff]
  rintro ⟨h1,h2,_⟩
  rcases h with h | h
  ·rw[h1] at h; cases h
  ·exact h h2
theorem b7u {E:List Ev} {R:List Int} {k:Int} (hR:b0x E R) (hk:0≤k∧k < E.length) {f j:Nat} (hj:j < chS R (inA R k) f 0):0≤atF R (inA R k) j∧atF R (inA R k) j < E.length:=by
 have h0:∀ i,i < chS R (inA R k) f 0→0≤atF R (inA R k) i:=fun i hi=>by
  have:=b2o (z2i i) hi
  simp only[a4n,z1n,z1g] at this
  omega
 exact⟨h0 j hj,c5c hR (hR.2 k hk.1 hk.2) fun i hi=>h0 i (by omega)⟩
theorem c50 {E:List Ev} {R:List Int} (hR:b0x E R) (hN:E.length≤64):d8 E.length (swP E R E.length)=true:=by
 refine z5.2 ⟨by omega,by omega,fun p hp=>?_⟩
 obtain⟨k,hk,hp⟩:=c2n.1 hp
 obtain⟨_,_,j,hj,rfl,_⟩:=c2m.1 hp
 obtain⟨h1,h2⟩:=b7u hR ⟨by omega,by omega⟩ hj
 exact⟨h1,h2,by simp,by simp; omega⟩
set_option maxRecDepth 100000
theorem fo52:o6 Tryz.prog 52:=⟨Tryz.f52,Tryz.func52,by kernel_rfl,by kernel_rfl⟩
theorem d7s:o6 Tryz.prog 146:=⟨Tryz.f146,Tryz.func146,by kernel_rfl,by kernel_rfl⟩
theorem d89 {l:List (Nat × PLoop)} {t:List (Nat × (List Slot→List MBlk→List Gh))} {s:List Nat}:a2e (146,⟨Tryz.f146,l,t,s⟩):=⟨Tryz.func146,d7s⟩
def q52D (E:List Ev) (R:List Int) (M:List (List Int)):Prop:=n7 (({ calls:=[kE1 80 rdE,kChn,c3k (no 6 ++ [some (.ps (swP E R E.length))])],loops:=[(0,.of (lSw E R 14 5 6))],inl:=[chI E R 5 6 13],takes:=[(2,fun _ _=>[.fresh 5 1 67 2])] }:Kit)).tab Tryz.f52 [grV E R M] (grM E R M) ((a9m E.length (b7 E.length (p8 E R M))).post EL)
theorem d5u (E:List Ev) (R:List Int) (M:List (List Int)):q52D E R M=(∃(x:PUnit),(∃(x:Nat),(x≤E.length∧True)∧((0:Int)=(↑x:Int)∧True)∧((↑E.length:Int)=(↑E.length:Int)∧(0:Nat)=(swP E R x).length)∧((0:Nat)=(swP E R x).length∧(swP E R x).length=(0:Nat)∧(swP E R x).length=(0:Nat)∧True)∧True)∧∀(x_1:Nat),x_1≤E.length∧True→(decide ((↑x_1:Int) < (↑E.length:Int))=true→((0:Int)≤(↑x_1:Int)∧(↑x_1:Int) < (↑E.length:Int))∧x_1 < E.length∧((!rdE (b6 e0 E x_1) || (b6 e0 E x_1).od != (2:Int))=true→∃(x_2:Nat),(x_2≤E.length∧True)∧((PLoop.of (lSw E R (14:Nat) (5:Nat) (6:Nat))).ann x).mu x_2 < ((PLoop.of (lSw E R (14:Nat) (5:Nat) (6:Nat))).ann x).mu x_1∧((E.length=E.length∧R.length=R.length∧M.length=M.length)∧True∧True∧True∧True∧E.length=E.length∧(↑E.length:Int)=(↑E.length:Int)∧((↑E.length:Int)=(↑E.length:Int)∧True)∧True∧E.length=E.length∧(↑E.length:Int)=(↑E.length:Int)∧IntKind.i64.wrap ((↑x_1:Int) + (1:Int))=(↑x_2:Int)∧True)∧eqA E.length (l5 E)∧eqA R.length (j5 R)∧eqA M.length (j9 M)∧(E.length=E.length∧R.length=R.length∧M.length=M.length)∧((0:Int)=(0:Int)∧True)∧((↑E.length:Int)=(↑E.length:Int)∧(swP E R x_1).length=(swP E R x_2).length)∧((swP E R x_1).length=(swP E R x_2).length∧(∀(j:Nat),j < (swP E R x_2).length→(b6 ((0:Int),(0:Int)) (swP E R x_1) j).fst=(b6 ((0:Int),(0:Int)) (swP E R x_2)
 j).fst)∧(∀(j:Nat),j < (swP E R x_2).length→(b6 ((0:Int),(0:Int)) (swP E R x_1) j).snd=(b6 ((0:Int),(0:Int)) (swP E R x_2) j).snd)∧True)∧True)∧((!rdE (b6 e0 E x_1) || (b6 e0 E x_1).od != (2:Int))=false→∀(us:List Value) (cd:LupCd) (x_2:Option Addr × Nat),((0:Int)≤(↑x_1:Int)∧(↑x_1:Int) < (↑R.length:Int))∧x_1 < R.length∧∃(x_3:Nat),(∃(x:Nat),(x_3 < E.length∧rdE (evA E (↑x_3:Int))=true∧(evA E (↑x_3:Int)).od=(2:Int)∧(∀(j:Nat),j < x→(0:Int)≤atF R (inA R (↑x_3:Int)) j∧atF R (inA R (↑x_3:Int)) j < (↑E.length:Int))∧List.Pairwise (fun(x1 x2:Int)=>x1≠x2) (a2h R (inA R (↑x_3:Int)) x)∧chS R (inA R (↑x_3:Int)) (E.length + (1:Nat)) (0:Nat)=chS R (inA R (↑x_3:Int)) (E.length + (1:Nat) - x) x)∧(b6 (0:Int) R x_1=atF R (inA R (↑x_3:Int)) x∧True)∧((↑E.length:Int)=(↑E.length:Int)∧(swP E R x_1).length=(swP E R x_3 ++ swR E R (inA R (↑x_3:Int)) (↑x_3:Int) x).length)∧((swP E R x_1).length=(swP E R x_3 ++ swR E R (inA R (↑x_3:Int)) (↑x_3:Int) x).length∧(∀(j:Nat),j < (swP E R x_3 ++ swR E R (inA R (↑x_3:Int)) (↑x_3:Int) x).length→(b6 ((0:Int),(0:Int)) (swP E R x_1) j).fst=(b6 ((0:Int),(0:Int)) (swP E R x_3 ++ swR E R (inA R (↑x_3:Int)) (↑x_3:Int) x) j).fst)∧(∀(j:Nat),j < (swP E R x_3 ++ swR E R (inA R (↑x_3:Int)) (↑x_3:Int) x).length→(b6 ((0:Int),(0:Int)) (swP E R x_1) j).snd=(b6 ((0
 : Int),(0:Int)) (swP E R x_3 ++ swR E R (inA R (↑x_3:Int)) (↑x_3:Int) x) j).snd)∧True)∧(∀(x_4:Int),none=a2g (a2h R (inA R (↑x_3:Int)) x) x_4)∧True)∧∀(x_4:Nat),x_3 < E.length∧rdE (evA E (↑x_3:Int))=true∧(evA E (↑x_3:Int)).od=(2:Int)∧(∀(j:Nat),j < x_4→(0:Int)≤atF R (inA R (↑x_3:Int)) j∧atF R (inA R (↑x_3:Int)) j < (↑E.length:Int))∧List.Pairwise (fun(x1 x2:Int)=>x1≠x2) (a2h R (inA R (↑x_3:Int)) x_4)∧chS R (inA R (↑x_3:Int)) (E.length + (1:Nat)) (0:Nat)=chS R (inA R (↑x_3:Int)) (E.length + (1:Nat) - x_4) x_4→((decide (atF R (inA R (↑x_3:Int)) x_4 ≥ (0:Int)) && !a1e (a2g (a2h R (inA R (↑x_3:Int)) x_4) (atF R (inA R (↑x_3:Int)) x_4)) != (0:Int))=true→∀(us_1:List Value),us=us∧cd=cd∧us=us∧us=us∧cd=cd∧((0:Int)≤atF R (inA R (↑x_3:Int)) x_4∧atF R (inA R (↑x_3:Int)) x_4 < (↑E.length:Int))∧(atF R (inA R (↑x_3:Int)) x_4).toNat < E.length∧(((b6 e0 E (atF R (inA R (↑x_3:Int)) x_4).toNat).od == (2:Int))=true→(swP E R x_3 ++ swR E R (inA R (↑x_3:Int)) (↑x_3:Int) x_4).length=(swP E R x_3 ++ swR E R (inA R (↑x_3:Int)) (↑x_3:Int) x_4).length∧(1:Nat)=(1:Nat)∧((swP E R x_3 ++ swR E R (inA R (↑x_3:Int)) (↑x_3:Int) x_4).length + (1:Nat)) * (16:Nat)≤(140737488355328:Nat)∧(swP E R x_3 ++ swR E R (inA R (↑x_3:Int)) (↑x_3:Int) x_4).length + (1:Nat)≤(9223372036854775807:Nat)∧us=us∧cd=cd∧us_1 =
 us_1∧((0:Int)≤atF R (inA R (↑x_3:Int)) x_4∧atF R (inA R (↑x_3:Int)) x_4 < (↑R.length:Int))∧(atF R (inA R (↑x_3:Int)) x_4).toNat < R.length∧∃(x:Nat),(x_3 < E.length∧rdE (evA E (↑x_3:Int))=true∧(evA E (↑x_3:Int)).od=(2:Int)∧(∀(j:Nat),j < x→(0:Int)≤atF R (inA R (↑x_3:Int)) j∧atF R (inA R (↑x_3:Int)) j < (↑E.length:Int))∧List.Pairwise (fun(x1 x2:Int)=>x1≠x2) (a2h R (inA R (↑x_3:Int)) x)∧chS R (inA R (↑x_3:Int)) (E.length + (1:Nat)) (0:Nat)=chS R (inA R (↑x_3:Int)) (E.length + (1:Nat) - x) x)∧((lCh E R (5:Nat) (5:Nat) (6:Nat) (13:Nat)).ann x_3).mu x < ((lCh E R (5:Nat) (5:Nat) (6:Nat) (13:Nat)).ann x_3).mu x_4∧(True∧True∧True∧True∧b6 (0:Int) R (atF R (inA R (↑x_3:Int)) x_4).toNat=atF R (inA R (↑x_3:Int)) x∧True∧True∧R.length=R.length∧(↑x_1:Int)=(↑x_1:Int)∧x_1=x_1∧b6 (0:Int) R x_1=b6 (0:Int) R x_1∧True)∧eqA E.length (l5 E)∧eqA R.length (j5 R)∧eqA M.length (j9 M)∧(E.length=E.length∧R.length=R.length∧M.length=M.length)∧((0:Int)=(0:Int)∧True)∧((↑E.length:Int)=(↑E.length:Int)∧(swP E R x_3 ++ swR E R (inA R (↑x_3:Int)) (↑x_3:Int) x_4).length + (1:Nat)=(swP E R x_3 ++ swR E R (inA R (↑x_3:Int)) (↑x_3:Int) x).length)∧((swP E R x_3 ++ swR E R (inA R (↑x_3:Int)) (↑x_3:Int) x_4).length + (1:Nat)=(swP E R x_3 ++ swR E R (inA R (↑x_3:Int)) (↑x_3:Int) x).length∧(∀
 (j:Nat),j < (swP E R x_3 ++ swR E R (inA R (↑x_3:Int)) (↑x_3:Int) x).length→(bif j.blt (swP E R x_3 ++ swR E R (inA R (↑x_3:Int)) (↑x_3:Int) x_4).length then(b6 ((0:Int),(0:Int)) (swP E R x_3 ++ swR E R (inA R (↑x_3:Int)) (↑x_3:Int) x_4) j).fst else e8 [atF R (inA R (↑x_3:Int)) x_4] (j - (swP E R x_3 ++ swR E R (inA R (↑x_3:Int)) (↑x_3:Int) x_4).length))=(b6 ((0:Int),(0:Int)) (swP E R x_3 ++ swR E R (inA R (↑x_3:Int)) (↑x_3:Int) x) j).fst)∧(∀(j:Nat),j < (swP E R x_3 ++ swR E R (inA R (↑x_3:Int)) (↑x_3:Int) x).length→(bif j.blt (swP E R x_3 ++ swR E R (inA R (↑x_3:Int)) (↑x_3:Int) x_4).length then(b6 ((0:Int),(0:Int)) (swP E R x_3 ++ swR E R (inA R (↑x_3:Int)) (↑x_3:Int) x_4) j).snd else e8 [(↑x_1:Int)] (j - (swP E R x_3 ++ swR E R (inA R (↑x_3:Int)) (↑x_3:Int) x_4).length))=(b6 ((0:Int),(0:Int)) (swP E R x_3 ++ swR E R (inA R (↑x_3:Int)) (↑x_3:Int) x) j).snd)∧True)∧(↑x_1:Int)=(↑x_1:Int)∧((b6 e0 E x_1).ag=(b6 e0 E x_1).ag∧(b6 e0 E x_1).ix=(b6 e0 E x_1).ix∧(b6 e0 E x_1).k=(b6 e0 E x_1).k∧(b6 e0 E x_1).ob=(b6 e0 E x_1).ob∧(b6 e0 E x_1).mu=(b6 e0 E x_1).mu∧(b6 e0 E x_1).en=(b6 e0 E x_1).en∧(b6 e0 E x_1).od=(b6 e0 E x_1).od∧(b6 e0 E x_1).rd=(b6 e0 E x_1).rd∧(b6 e0 E x_1).wr=(b6 e0 E x_1).wr)∧(E.length=E.length∧R.length=R.length∧M.length=M.length)∧(↑x_1:Int)=(↑x_1:Int)∧(((E.length =
 E.length∧R.length=R.length∧M.length=M.length)∧True∧True∧True∧True∧True∧True∧True∧E.length=E.length∧(↑E.length:Int)=(↑E.length:Int)∧((↑E.length:Int)=(↑E.length:Int)∧True)∧True∧E.length=E.length∧(↑E.length:Int)=(↑E.length:Int)∧(↑x_1:Int)=(↑x_1:Int)∧true=true∧(↑x_1:Int)=(↑x_1:Int)∧x_1=x_1∧((b6 e0 E x_1).ag=(b6 e0 E x_1).ag∧(b6 e0 E x_1).ix=(b6 e0 E x_1).ix∧(b6 e0 E x_1).k=(b6 e0 E x_1).k∧(b6 e0 E x_1).ob=(b6 e0 E x_1).ob∧(b6 e0 E x_1).mu=(b6 e0 E x_1).mu∧(b6 e0 E x_1).en=(b6 e0 E x_1).en∧(b6 e0 E x_1).od=(b6 e0 E x_1).od∧(b6 e0 E x_1).rd=(b6 e0 E x_1).rd∧(b6 e0 E x_1).wr=(b6 e0 E x_1).wr)∧((b6 e0 E x_1).ag=(b6 e0 E x_1).ag∧(b6 e0 E x_1).ix=(b6 e0 E x_1).ix∧(b6 e0 E x_1).k=(b6 e0 E x_1).k∧(b6 e0 E x_1).ob=(b6 e0 E x_1).ob∧(b6 e0 E x_1).mu=(b6 e0 E x_1).mu∧(b6 e0 E x_1).en=(b6 e0 E x_1).en∧(b6 e0 E x_1).od=(b6 e0 E x_1).od∧(b6 e0 E x_1).rd=(b6 e0 E x_1).rd∧(b6 e0 E x_1).wr=(b6 e0 E x_1).wr)∧rdE (b6 e0 E x_1)=rdE (b6 e0 E x_1)∧(!rdE (b6 e0 E x_1)) = !rdE (b6 e0 E x_1)∧(!rdE (b6 e0 E x_1)) = !rdE (b6 e0 E x_1)∧True∧True∧True∧false=false∧(E.length=E.length∧R.length=R.length∧M.length=M.length)∧(↑x_1:Int)=(↑x_1:Int)∧(True∧True)∧True∧True∧True∧True∧True∧True∧True∧True∧True∧True∧True∧True
 ∧ True∧True∧True∧True∧True∧True∧True)∧us=us)∧(us=us∧cd=cd)∧(∀(x_5:Int),(bif x_5 == atF R (inA R (↑x_3:Int)) x_4 then some (bif true then(1:Int) else(0:Int)) else a2g (a2h R (inA R (↑x_3:Int)) x_4) x_5)=a2g (a2h R (inA R (↑x_3:Int)) x) x_5)∧True)∧(((b6 e0 E (atF R (inA R (↑x_3:Int)) x_4).toNat).od == (2:Int))=false→us=us∧cd=cd∧us_1=us_1∧((0:Int)≤atF R (inA R (↑x_3:Int)) x_4∧atF R (inA R (↑x_3:Int)) x_4 < (↑R.length:Int))∧(atF R (inA R (↑x_3:Int)) x_4).toNat < R.length∧∃(x:Nat),(x_3 < E.length∧rdE (evA E (↑x_3:Int))=true∧(evA E (↑x_3:Int)).od=(2:Int)∧(∀(j:Nat),j < x→(0:Int)≤atF R (inA R (↑x_3:Int)) j∧atF R (inA R (↑x_3:Int)) j < (↑E.length:Int))∧List.Pairwise (fun(x1 x2:Int)=>x1≠x2) (a2h R (inA R (↑x_3:Int)) x)∧chS R (inA R (↑x_3:Int)) (E.length + (1:Nat)) (0:Nat)=chS R (inA R (↑x_3:Int)) (E.length + (1:Nat) - x) x)∧((lCh E R (5:Nat) (5:Nat) (6:Nat) (13:Nat)).ann x_3).mu x < ((lCh E R (5:Nat) (5:Nat) (6:Nat) (13:Nat)).ann x_3).mu x_4∧(True∧True∧True∧True∧b6 (0:Int) R (atF R (inA R (↑x_3:Int)) x_4).toNat=atF R (inA R (↑x_3:Int)) x∧True∧True∧R.length=R.length∧(↑x_1:Int)=(↑x_1:Int)∧x_1=x_1∧b6 (0:Int) R x_1=b6 (0:Int) R x_1∧True)∧eqA E.length (l5 E)∧eqA R.length (j5 R)∧eqA M.length (j9 M)∧(E.length=E.length∧R.length=R.length ∧
 M.length=M.length)∧((0:Int)=(0:Int)∧True)∧((↑E.length:Int)=(↑E.length:Int)∧(swP E R x_3 ++ swR E R (inA R (↑x_3:Int)) (↑x_3:Int) x_4).length=(swP E R x_3 ++ swR E R (inA R (↑x_3:Int)) (↑x_3:Int) x).length)∧((swP E R x_3 ++ swR E R (inA R (↑x_3:Int)) (↑x_3:Int) x_4).length=(swP E R x_3 ++ swR E R (inA R (↑x_3:Int)) (↑x_3:Int) x).length∧(∀(j:Nat),j < (swP E R x_3 ++ swR E R (inA R (↑x_3:Int)) (↑x_3:Int) x).length→(b6 ((0:Int),(0:Int)) (swP E R x_3 ++ swR E R (inA R (↑x_3:Int)) (↑x_3:Int) x_4) j).fst=(b6 ((0:Int),(0:Int)) (swP E R x_3 ++ swR E R (inA R (↑x_3:Int)) (↑x_3:Int) x) j).fst)∧(∀(j:Nat),j < (swP E R x_3 ++ swR E R (inA R (↑x_3:Int)) (↑x_3:Int) x).length→(b6 ((0:Int),(0:Int)) (swP E R x_3 ++ swR E R (inA R (↑x_3:Int)) (↑x_3:Int) x_4) j).snd=(b6 ((0:Int),(0:Int)) (swP E R x_3 ++ swR E R (inA R (↑x_3:Int)) (↑x_3:Int) x) j).snd)∧True)∧(↑x_1:Int)=(↑x_1:Int)∧((b6 e0 E x_1).ag=(b6 e0 E x_1).ag∧(b6 e0 E x_1).ix=(b6 e0 E x_1).ix∧(b6 e0 E x_1).k=(b6 e0 E x_1).k∧(b6 e0 E x_1).ob=(b6 e0 E x_1).ob∧(b6 e0 E x_1).mu=(b6 e0 E x_1).mu∧(b6 e0 E x_1).en=(b6 e0 E x_1).en∧(b6 e0 E x_1).od=(b6 e0 E x_1).od∧(b6 e0 E x_1).rd=(b6 e0 E x_1).rd∧(b6 e0 E x_1).wr=(b6 e0 E x_1).wr)∧(E.length=E.length∧R.length=R.length∧M.length=M.length)∧(↑x_1:Int)=(↑x_1:Int)∧(((E.length=E.length ∧
 R.length=R.length∧M.length=M.length)∧True∧True∧True∧True∧True∧True∧True∧E.length=E.length∧(↑E.length:Int)=(↑E.length:Int)∧((↑E.length:Int)=(↑E.length:Int)∧True)∧True∧E.length=E.length∧(↑E.length:Int)=(↑E.length:Int)∧(↑x_1:Int)=(↑x_1:Int)∧true=true∧(↑x_1:Int)=(↑x_1:Int)∧x_1=x_1∧((b6 e0 E x_1).ag=(b6 e0 E x_1).ag∧(b6 e0 E x_1).ix=(b6 e0 E x_1).ix∧(b6 e0 E x_1).k=(b6 e0 E x_1).k∧(b6 e0 E x_1).ob=(b6 e0 E x_1).ob∧(b6 e0 E x_1).mu=(b6 e0 E x_1).mu∧(b6 e0 E x_1).en=(b6 e0 E x_1).en∧(b6 e0 E x_1).od=(b6 e0 E x_1).od∧(b6 e0 E x_1).rd=(b6 e0 E x_1).rd∧(b6 e0 E x_1).wr=(b6 e0 E x_1).wr)∧((b6 e0 E x_1).ag=(b6 e0 E x_1).ag∧(b6 e0 E x_1).ix=(b6 e0 E x_1).ix∧(b6 e0 E x_1).k=(b6 e0 E x_1).k∧(b6 e0 E x_1).ob=(b6 e0 E x_1).ob∧(b6 e0 E x_1).mu=(b6 e0 E x_1).mu∧(b6 e0 E x_1).en=(b6 e0 E x_1).en∧(b6 e0 E x_1).od=(b6 e0 E x_1).od∧(b6 e0 E x_1).rd=(b6 e0 E x_1).rd∧(b6 e0 E x_1).wr=(b6 e0 E x_1).wr)∧rdE (b6 e0 E x_1)=rdE (b6 e0 E x_1)∧(!rdE (b6 e0 E x_1)) = !rdE (b6 e0 E x_1)∧(!rdE (b6 e0 E x_1)) = !rdE (b6 e0 E x_1)∧True∧True∧True∧false=false∧(E.length=E.length∧R.length=R.length∧M.length=M.length)∧(↑x_1:Int)=(↑x_1:Int)∧(True∧True)∧True∧True∧True∧True∧True∧True∧True∧True∧True∧True∧True∧True∧True ∧
 True∧True∧True∧True∧True∧True)∧us=us)∧(us=us∧cd=cd)∧(∀(x_5:Int),(bif x_5 == atF R (inA R (↑x_3:Int)) x_4 then some (bif true then(1:Int) else(0:Int)) else a2g (a2h R (inA R (↑x_3:Int)) x_4) x_5)=a2g (a2h R (inA R (↑x_3:Int)) x) x_5)∧True))∧((decide (atF R (inA R (↑x_3:Int)) x_4 ≥ (0:Int)) && !a1e (a2g (a2h R (inA R (↑x_3:Int)) x_4) (atF R (inA R (↑x_3:Int)) x_4)) != (0:Int)) = !true→us=us∧us=us∧cd=cd∧∃(x_5:Nat),(x_5≤E.length∧True)∧((PLoop.of (lSw E R (14:Nat) (5:Nat) (6:Nat))).ann x).mu x_5 < ((PLoop.of (lSw E R (14:Nat) (5:Nat) (6:Nat))).ann x).mu x_1∧((E.length=E.length∧R.length=R.length∧M.length=M.length)∧True∧True∧True∧True∧E.length=E.length∧(↑E.length:Int)=(↑E.length:Int)∧((↑E.length:Int)=(↑E.length:Int)∧True)∧True∧E.length=E.length∧(↑E.length:Int)=(↑E.length:Int)∧IntKind.i64.wrap ((↑x_1:Int) + (1:Int))=(↑x_5:Int)∧True)∧eqA E.length (l5 E)∧eqA R.length (j5 R)∧eqA M.length (j9 M)∧(E.length=E.length∧R.length=R.length∧M.length=M.length)∧((0:Int)=(0:Int)∧True)∧((↑E.length:Int)=(↑E.length:Int)∧(swP E R x_3 ++ swR E R (inA R (↑x_3:Int)) (↑x_3:Int) x_4).length=(swP E R x_5).length)∧((swP E R x_3 ++ swR E R (inA R (↑x_3:Int)) (↑x_3:Int) x_4).length=(swP E R x_5).length∧(∀(j:Nat),j < (swP E R x_5).length→(b6 ((0:Int),(0:Int)) (swP E R
 x_3 ++ swR E R (inA R (↑x_3:Int)) (↑x_3:Int) x_4) j).fst=(b6 ((0:Int),(0:Int)) (swP E R x_5) j).fst)∧(∀(j:Nat),j < (swP E R x_5).length→(b6 ((0:Int),(0:Int)) (swP E R x_3 ++ swR E R (inA R (↑x_3:Int)) (↑x_3:Int) x_4) j).snd=(b6 ((0:Int),(0:Int)) (swP E R x_5) j).snd)∧True)∧True)))∧(decide ((↑x_1:Int) < (↑E.length:Int))=false→(swP E R x_1).length=(swP E R x_1).length∧mkN (fun(j:Nat)=>((b6 ((0:Int),(0:Int)) (swP E R x_1) j).fst,(b6 ((0:Int),(0:Int)) (swP E R x_1) j).snd)) (swP E R x_1).length=swP E R E.length∧(swP E R E.length).length≤(1099511627776:Nat)∧(AV.ps (bif d8 (↑E.length:Int) (swP E R E.length) then b7 (↑E.length:Int) (d9 (swP E R E.length)) else [])).len=(AV.ps (b7 (↑E.length:Int) (p8 E R M))).len∧((∀(j:Nat),j < (AV.ps (b7 (↑E.length:Int) (p8 E R M))).len→(b6 ((0:Int),(0:Int)) (bif d8 (↑E.length:Int) (swP E R E.length) then b7 (↑E.length:Int) (d9 (swP E R E.length)) else []) j).fst=(b6 ((0:Int),(0:Int)) (b7 (↑E.length:Int) (p8 E R M)) j).fst)∧(∀(j:Nat),j < (AV.ps (b7 (↑E.length:Int) (p8 E R M))).len→(b6 ((0:Int),(0:Int)) (bif d8 (↑E.length:Int) (swP E R E.length) then b7 (↑E.length:Int) (d9 (swP E R E.length)) else []) j).snd=(b6 ((0:Int),(0:Int)) (b7 (↑E.length:Int) (p8 E R M)) j).snd)∧True)∧(bif d8 (↑E.length:Int) (swP E R E.length) then
 (↑E.length:Int) else(0:Int))=(↑E.length:Int)∧(AV.ps (bif d8 (↑E.length:Int) (swP E R E.length) then b7 (↑E.length:Int) (d9 (swP E R E.length)) else [])).len=(AV.ps (b7 (↑E.length:Int) (p8 E R M))).len∧True)):=by kernel_rfl
theorem v52 (E:List Ev) (R:List Int) (M:List (List Int)) (h:pgS E R M 0 0):q52D E R M:=by
 rw[d5u]
 have h64:(E.length:Int)≤64:=h.1
 have hR:b0x E R:=h.2
 have hRl:=hR.1
 have hb1:∀ k,k≤E.length→(swP E R k).length≤64 * 65:=fun k hk=>Nat.le_trans (d0k E R k) (z2v (by omega) (by omega))
 simp only[eq_self,true_and,and_true,z0o,imp_self,m5,m6,m9,g7,g9,PLoop.of,p9,AV.len,i5,z0s,j4,j7,j8,l7,l8,l9,lSw,lCh,PLoop.of]
 refine⟨(),⟨0,by omega,rfl,rfl,rfl,rfl,rfl⟩,fun k hk=>⟨fun hlk=>?_,fun hlk=>?_⟩⟩
 ·have hk2:k < E.length:=by have:=z0e hlk; omega
  have hw:=wrS (n:=E.length) hk2 (by omega)
  refine⟨⟨by omega,by omega⟩,hk2,fun hc=>?_,fun hc=>?_⟩
  ·have e:swP E R (k + 1)=swP E R k:=by
    have:swK E R k=[]:=by unfold swK; rw[show(!rdE (evA E k) || (evA E k).od != 2)=true from hc]; rfl
    rw[swP,this,z1f]
   refine⟨k + 1,by omega,by omega,hw,?_⟩
   rw[e]; simp
  ·have hc2:rdE (evA E k)=true∧(evA E k).od=2:=by
    have hc3:(!rdE (evA E k) || (evA E k).od != 2)=false:=hc
    simpa using hc3
   have hx:inA R k < E.length:=hR.2 k (by omega) (by omega)
   refine fun cd=>⟨⟨by omega,by omega⟩,by omega,k,⟨0,⟨hk2,hc2.1,hc2.2,fun j hj=>absurd hj (z2k _),by simp[a2h],rfl⟩,rfl,by simp[swR],⟨by simp[swR],by simp[swR]⟩,fun _=>rfl⟩,fun s hs=>?_⟩
   obtain⟨_,_,_,s1,s2,s3⟩:=hs
   have s2:(a2h R (inA R k) s).Nodup:=s2
   have hsn:=d6n s2 s1
   simp only[b9u]
   have hlt:=c5c hR hx (s:=s) fun j hj=>(s1 j hj).1
   have hl1:=c2o E R (inA R k) k s
   have hl2:=hb1 k hk
   refine⟨fun hcd=>?_,fun hcd=>?_⟩
   ·have he:=c5i hcd
    have h0:0≤atF R (inA R k) s:=by
     simp only[z0d,z1p] at hcd; exact hcd.1
    have hnin:atF R (inA R k) s ∉ a2h R (inA R k) s:=by
     simp only[z0d,z0v] at hcd
     simpa using hcd.2
    have hvis:a2h R (inA R k) (s + 1)=a2h R (inA R k) s ++ [atF R (inA R k) s]:=rfl
    have hset:∀ y:Int,(bif y == atF R (inA R k) s then some 1 else a2g (a2h R (inA R k) s) y)=a2g (a2h R (inA R k) (s + 1)) y:=fun y=>by rw[hvis]; exact b5q _ _ _
    have hnx:k < E.length∧rdE (evA E k)=true∧(evA E k).od=2∧(∀ j:Nat,j < s + 1→0≤atF R (inA R k) j∧atF R (inA R k) j < E.length)∧(a2h R (inA R k) (s + 1)).Nodup∧chS R (inA R k) (E.length + 1) 0=chS R (inA R k) (E.length + 1 - (s + 1)) (s + 1):=by
     refine⟨hk2,hc2.1,hc2.2,fun j hj=>?_,?_,?_⟩
     ·by_cases e:j=s
      ·subst e; exact⟨h0,hlt⟩
      ·exact s1 j (by omega)
     ·rw[hvis,List.nodup_append]
      refine⟨s2,by simp,fun a ha b hb=>?_⟩
      simp at hb
      subst hb
      exact fun e=>hnin (e ▸ ha)
     ·rw[s3,show E.length + 1 - s=(E.length + 1 - (s + 1)) + 1 by omega,a6s he]
    have hlt2:(atF R (inA R k) s).toNat < E.length:=by omega
    refine⟨⟨h0,hlt⟩,hlt2,fun ho=>⟨by rw[z1a]; omega,by rw[z1a]; omega,⟨h0,by omega⟩,by omega,s + 1,hnx,by omega,rfl,?_⟩,fun ho=>⟨⟨h0,by omega⟩,by omega,s + 1,hnx,by omega,rfl,?_⟩⟩
    ·have e:swR E R (inA R k) k (s + 1)=swR E R (inA R k) k s ++ [(atF R (inA R k) s,(k:Int))]:=by
      rw[swR,show((evA E (atF R (inA R k) s)).od == 2)=true from ho,z0g]
     rw[e,← z1x]
     have e3:(swP E R k ++ swR E R (inA R k) k s ++ [(atF R (inA R k) s,(k:Int))]).length=(swP E R k ++ swR E R (inA R k) k s).length + 1:=by rw[z1a (bs:=[(atF R (inA R k) s,(k:Int))])]; rfl
     exact⟨e3.symm,⟨e3.symm,ap1 (·.1) _ _,ap1 (·.2) _ _⟩,hset⟩
    ·have e:swR E R (inA R k) k (s + 1)=swR E R (inA R k) k s:=by
      rw[swR,show((evA E (atF R (inA R k) s)).od == 2)=false from ho,z0l]
     rw[e]
     exact⟨rfl,⟨rfl,fun _ _=>rfl,fun _ _=>rfl⟩,hset⟩
   ·have he:=c2y hcd
    have e1:chS R (inA R k) (E.length + 1) 0=s:=by
     rw[s3,show E.length + 1 - s=(E.length - s) + 1 by omega,a8t he]
    have e:swP E R (k + 1)=swP E R k ++ swR E R (inA R k) k s:=by
     have:swK E R k=swR E R (inA R k) k s:=by
      unfold swK
      rw[show(!rdE (evA E k) || (evA E k).od != 2)=false from hc,z0l,e1]
     rw[swP,this]
    refine⟨k + 1,by omega,by omega,hw,?_⟩
    rw[e]
    simp
 ·have hk2:k=E.length:=by have:=z0m hlk; omega
  subst hk2
  have h1:=hb1 E.length (z0q _)
  rw[c50 hR (by omega)]
  simp only[z0g,p8]
  simp only[z0o,and_self,and_true,true_and]
  omega
theorem n52 (nm:List (Option AV)):CallOk Tryz.prog [] 52 (n6 EL none nm [PG] (a6k pgS p8)):=x4 Tryz.func52 fo52 fun av pre rv h=>by
 unfold a6k at h; split at h <;> cases h
 exact⟨⟨rfl,fun t a e=>by cases e <;> exact z0h _ _⟩,fun hp=>⟨_,v52 _ _ _ (hp _ (.head _)),rfl,(m4 (n80 _) (m4 n108 (m4 (c43 _) t6))),(a3f d89 t7)⟩⟩
def o7 (l:List (Int × List Pq)):Nat→List Pq
 | 0=>[]
 | j + 1=>o7 l j ++ (b6 (0,[]) l j).2
def c9b (n:Int) (l:List (Int × List Pq)) (t c e:Nat):LAnn:=p9 l.length t (fun _=>True) (fun j=>[(c,.cells [.i .i64 n,.sl e (o7 l j).length]),b8v e (o7 l j)]) [e]
def d4c:SpG:=fun
 | [.lf (.i n),.lf (.rl l)]=>some ([(l.length≤64∧d8 n (o7 l l.length)=true)∧∀ j,j≤l.length→(o7 l j).length≤1000000],a9m n (b7 n (wF (d9 (o7 l l.length)) n.toNat)))
 | _=>none
def kClz (nm:List (Option AV)):Nat × (List MBlk→List SV→Option AR):=(54,n6 EL none nm [.lf .i,.lf .rl] d4c)
theorem fo54:o6 Tryz.prog 54:=⟨Tryz.f54,Tryz.func54,by kernel_rfl,by kernel_rfl⟩
def q54D (n:Int) (l:List (Int × List Pq)):Prop:=n7 (({ calls:=[kClo (no 3 ++ [some (.ps (o7 l l.length))])],loops:=[(0,.of (c9b n l 12 2 3))],takes:=[(2,fun _ _=>[.fresh 2 1 67 2])] }:Kit)).tab Tryz.f54 [.i .i64 n,.sl 0 l.length] [.arr l.length (b3t l)] ((a9m n (b7 n (wF (d9 (o7 l l.length)) n.toNat))).post EL)
theorem d5v (n:Int) (l:List (Int × List Pq)):q54D n l=(∃(x:PUnit),(∃(x:Nat),(x≤l.length∧True)∧((0:Int)=(↑x:Int)∧True)∧(n=n∧(0:Nat)=(o7 l x).length)∧((0:Nat)=(o7 l x).length∧(o7 l x).length=(0:Nat)∧(o7 l x).length=(0:Nat)∧True)∧True)∧∀(x_1:Nat),x_1≤l.length∧True→(decide ((↑x_1:Int) < (↑l.length:Int))=true→((0:Int)≤(↑x_1:Int)∧(↑x_1:Int) < (↑l.length:Int))∧x_1 < l.length∧(o7 l x_1).length=(o7 l x_1).length∧(b6 ((0:Int),[]) l x_1).snd.length=(b6 ((0:Int),[]) l x_1).snd.length∧((o7 l x_1).length + (b6 ((0:Int),[]) l x_1).snd.length) * (16:Nat)≤(140737488355328:Nat)∧(o7 l x_1).length + (b6 ((0:Int),[]) l x_1).snd.length≤(9223372036854775807:Nat)∧∃(x_2:Nat),(x_2≤l.length∧True)∧((PLoop.of (c9b n l (12:Nat) (2:Nat) (3:Nat))).ann x).mu x_2 < ((PLoop.of (c9b n l (12:Nat) (2:Nat) (3:Nat))).ann x).mu x_1∧(n=n∧l.length=l.length∧True∧True∧n=n∧(n=n∧True)∧l.length=l.length∧(↑l.length:Int)=(↑l.length:Int)∧IntKind.i64.wrap ((↑x_1:Int) + (1:Int))=(↑x_2:Int)∧True)∧eqA l.length (b3t l)∧((0:Int)=(0:Int)∧True)∧(n=n∧(o7 l x_1).length + (b6 ((0:Int),[]) l x_1).snd.length=(o7 l x_2).length)∧((o7 l x_1).length + (b6 ((0:Int),[]) l x_1).snd.length=(o7 l x_2).length∧(∀(j:Nat),j < (o7 l x_2).length→(bif j.blt (o7 l x_1).length then(b6 ((0:Int),(0:Int)) (o7 l x_1)
 j).fst else(b6 ((0:Int),(0:Int)) (b6 ((0:Int),[]) l x_1).snd (j - (o7 l x_1).length)).fst)=(b6 ((0:Int),(0:Int)) (o7 l x_2) j).fst)∧(∀(j:Nat),j < (o7 l x_2).length→(bif j.blt (o7 l x_1).length then(b6 ((0:Int),(0:Int)) (o7 l x_1) j).snd else(b6 ((0:Int),(0:Int)) (b6 ((0:Int),[]) l x_1).snd (j - (o7 l x_1).length)).snd)=(b6 ((0:Int),(0:Int)) (o7 l x_2) j).snd)∧True)∧True)∧(decide ((↑x_1:Int) < (↑l.length:Int))=false→(o7 l x_1).length=(o7 l x_1).length∧mkN (fun(j:Nat)=>((b6 ((0:Int),(0:Int)) (o7 l x_1) j).fst,(b6 ((0:Int),(0:Int)) (o7 l x_1) j).snd)) (o7 l x_1).length=o7 l l.length∧(o7 l l.length).length≤(1099511627776:Nat)∧(AV.ps (bif d8 n (o7 l l.length) then b7 n (wF (d9 (o7 l l.length)) n.toNat) else [])).len=(AV.ps (b7 n (wF (d9 (o7 l l.length)) n.toNat))).len∧((∀(j:Nat),j < (AV.ps (b7 n (wF (d9 (o7 l l.length)) n.toNat))).len→(b6 ((0:Int),(0:Int)) (bif d8 n (o7 l l.length) then b7 n (wF (d9 (o7 l l.length)) n.toNat) else []) j).fst=(b6 ((0:Int),(0:Int)) (b7 n (wF (d9 (o7 l l.length)) n.toNat)) j).fst)∧(∀(j:Nat),j < (AV.ps (b7 n (wF (d9 (o7 l l.length)) n.toNat))).len→(b6 ((0:Int),(0:Int)) (bif d8 n (o7 l l.length) then b7 n (wF (d9 (o7 l l.length)) n.toNat) else []) j).snd=(b6 ((0:Int),(0:Int))
 (b7 n (wF (d9 (o7 l l.length)) n.toNat)) j).snd)∧True)∧(bif d8 n (o7 l l.length) then n else(0:Int))=n∧(AV.ps (bif d8 n (o7 l l.length) then b7 n (wF (d9 (o7 l l.length)) n.toNat) else [])).len=(AV.ps (b7 n (wF (d9 (o7 l l.length)) n.toNat))).len∧True)):=by kernel_rfl
theorem v54 (n:Int) (l:List (Int × List Pq)) (h:(l.length≤64∧d8 n (o7 l l.length)=true)∧∀ j,j≤l.length→(o7 l j).length≤1000000):q54D n l:=by
 rw[d5v]
 obtain⟨⟨hl,hv⟩,hb⟩:=h
 simp only[eq_self,true_and,and_true,z0o,imp_self,m5,m6,m9,g7,g9,PLoop.of,p9,AV.len,i5,z0s,j4,j7,j8,l7,l8,l9,c9b]
 refine⟨(),⟨0,by omega,rfl,rfl,rfl,rfl,rfl⟩,fun j hj=>⟨fun hlj=>?_,fun hlj=>?_⟩⟩
 ·have hj2:j < l.length:=by have:=z0e hlj; omega
  have h1:=hb (j + 1) (by omega)
  have e:o7 l (j + 1)=o7 l j ++ (b6 (0,[]) l j).2:=rfl
  have h2:(o7 l (j + 1)).length=(o7 l j).length + (b6 (0,[]) l j).2.length:=by rw[e,z1a]
  rw[h2] at h1
  refine⟨⟨by omega,by omega⟩,hj2,by omega,by omega,j + 1,by omega,by omega,wrS (n:=l.length) hj2 (by omega),h2.symm,h2.symm,?_,?_⟩
  ·rw[e]; exact fun j _=>ap2 (·.1) _ _ j
  ·rw[e]; exact fun j _=>ap2 (·.2) _ _ j
 ·have hj2:j=l.length:=by have:=z0m hlj; omega
  subst hj2
  have h1:=hb l.length (z0q _)
  rw[hv]
  simp only[z0g,z0o,and_self,and_true,true_and]
  omega
theorem n54 (nm:List (Option AV)):CallOk Tryz.prog [] 54 (n6 EL none nm [.lf .i,.lf .rl] d4c):=x4 Tryz.func54 fo54 fun av pre rv h=>by
 unfold d4c at h; split at h <;> cases h
 exact⟨⟨rfl,fun t a e=>by cases e <;> exact z0h _ _⟩,fun hp=>⟨_,v54 _ _ (hp _ (.head _)),rfl,(m4 (n110 _) t6),t7⟩⟩
def nmT (E:List Ev) (R:List Int) (M:List (List Int)):List (Option AV):=[none,some (.es E),some (.is R),some (.rs M)]
def grT (E:List Ev) (R:List Int) (M:List (List Int)):List MBlk:=[tbl,.arr E.length (l5 E),.arr R.length (j5 R),.arr M.length (j9 M)]
def a98 (E:List Ev) (R:List Int) (M:List (List Int)):SV:=.agg [.sl 1 E.length,.sl 2 R.length,.sl 3 M.length]
def kRl (n:Nat) (S:SpG) (nm:List (Option AV)):Nat × (List MBlk→List SV→Option AR):=(n,n6 EL none nm [PG] S)
def a63 (n:Nat) (S:SpG) (nm:List (Option AV)):Nat × (List MBlk→List SV→Option AR):=(n,n6 EL gbT nm [PG] S)
def d3s:Nat × (List MBlk→List SV→Option AR):=(57,c05)
noncomputable def b8j (n:Nat) (fn:Func):List (Nat × Inl):=[(47,{ fn:=Tryz.f47 }),(n,{ fn:=fn })]
end Go.Proofs.YtaeeaniofljmnaaGreatDoor

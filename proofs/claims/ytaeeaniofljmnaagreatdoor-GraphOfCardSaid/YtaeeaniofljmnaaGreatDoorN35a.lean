/-
  A part of the proof (N35a).
-/
import Derived.Test.YtaeeaniofljmnaaGreatDoorN31a
namespace Go.Proofs.YtaeeaniofljmnaaGreatDoor
set_option linter.unusedSimpArgs false
set_option linter.unusedVariables false
open Go Go.Proofs.YtaeeaniofljmnaaGreatDoor.Sx
theorem c8w {R:List Int} {x y:Int}:∀ {s:Nat},y∈a2m R x s↔∃ j,j < s∧y=atF R x j:=by
 intro s
 induction s with
 | zero=>simp[a2m]
 | succ s ih =>
  simp only[a2m,z0n,z0r,ih]
  constructor
  ·rintro (⟨j,h1,h2⟩ | h)
   ·exact⟨j,by omega,h2⟩
   ·exact⟨s,by omega,h⟩
  ·rintro ⟨j,h1,h2⟩
   by_cases e:j=s
   ·subst e; exact .inr h2
   ·exact .inl ⟨j,by omega,h2⟩
theorem c8v (R:List Int) (x:Int):∀ s,(a2m R x s).length=s:=by
 intro s
 induction s with
 | zero=>rfl
 | succ s ih=>simp[a2m,ih]
theorem d6b {R:List Int} {x:Int} {s n:Nat} (h:(a2m R x s).Nodup) (hr:∀ j,j < s→0≤atF R x j∧atF R x j < n):s≤n:=by
 have:=b0g (W:=(List.range n).map (fun i:Nat=>(i:Int))) h (fun y hy=>by
  obtain⟨j,h1,rfl⟩:=c8w.1 hy
  obtain⟨h2,h3⟩:=hr j h1
  exact z2h.2 ⟨(atF R x j).toNat,by simp; omega,by omega⟩)
 simpa [c8v] using this
theorem c5p {R:List Int} {x:Int} {s:Nat} (h:(decide (atF R x s ≥ 0) && !(a2m R x s).contains (atF R x s))=true):a6q R x s=false:=by
 simp only[z0d,z1p,z0x] at h
 simp only[a6q,h.2,Bool.or_false,z1m]; omega
theorem c33 {R:List Int} {x:Int} {s:Nat} (h:(decide (atF R x s ≥ 0) && !(a2m R x s).contains (atF R x s))=false):a6q R x s=true:=by
 simp only[Bool.and_eq_false_iff,z1m,Bool.not_eq_false'] at h
 simp only[a6q,z1r,z1p]
 rcases h with h | h
 ·exact .inl (by omega)
 ·exact .inr h
theorem b2l {R:List Int} {x:Int} {f s:Nat} (h:a6q R x s=false):chS R x (f + 1) s=chS R x f (s + 1):=by simp[chS,h]
theorem b2m {R:List Int} {x:Int} {f s:Nat} (h:a6q R x s=true):chS R x (f + 1) s=s:=by simp[chS,h]
theorem d3d (R:List Int) (x:Int):∀ f s,chS R x f s≤s + f:=by
 intro f
 induction f with
 | zero=>intro s; simp[chS]
 | succ f ih =>
  intro s
  cases h:a6q R x s
  ·rw[b2l h]; have:=ih (s + 1); omega
  ·rw[b2m h]; omega
theorem c0a {R:List Int} {x:Int}:∀ {f s j:Nat},s≤j→j < chS R x f s→a6q R x j=false:=by
 intro f
 induction f with
 | zero=>intro s j h1 h2; simp[chS] at h2; omega
 | succ f ih =>
  intro s j h1 h2
  cases h:a6q R x s
  ·rw[b2l h] at h2
   by_cases e:j=s
   ·rw[e]; exact h
   ·exact ih (by omega) h2
  ·rw[b2m h] at h2; omega
theorem c5i {E:List Ev} {R:List Int} {x:Int} (hR:b4x E R) (hx:x < E.length):∀ {s:Nat},(∀ j,j < s→0≤atF R x j)→atF R x s < E.length:=by
 intro s
 induction s with
 | zero=>intro _; exact hx
 | succ s ih =>
  intro h
  exact hR.2 _ (h s (by omega)) (ih fun j hj=>h j (by omega))
theorem d0s {E:List Ev} {R:List Int} {x k:Int} {p:Pq}:∀ {s:Nat},p∈swR E R x k s↔∃ j,j < s∧p=(atF R x j,k)∧(evA E (atF R x j)).od=2:=by
 intro s
 induction s with
 | zero=>simp[swR]
 | succ s ih =>
  have key:p∈swR E R x k (s + 1)↔p∈swR E R x k s∨(p=(atF R x s,k)∧(evA E (atF R x s)).od=2):=by
   simp only[swR]
   cases h:(evA E (atF R x s)).od == 2
   ·have:(evA E (atF R x s)).od≠2:=by simpa using h
    simp[this]
   ·have:(evA E (atF R x s)).od=2:=by simpa using h
    simp[this]
  rw[key,ih]
  constructor
  ·rintro (⟨j,h1,h2⟩ | h)
   ·exact⟨j,by omega,h2⟩
   ·exact⟨s,by omega,h⟩
  ·rintro ⟨j,h1,h2⟩
   by_cases e:j=s
   ·subst e; exact .inr h2
   ·exact .inl ⟨j,by omega,h2⟩
theorem c2t (E:List Ev) (R:List Int) (x k:Int):∀ s,(swR E R x k s).length≤s:=by
 intro s
 induction s with
 | zero=>simp[swR]
 | succ s ih=>simp only[swR]; cases(evA E (atF R x s)).od == 2 <;> simp <;> omega
theorem d0p (E:List Ev) (R:List Int) (k:Int):(swK E R k).length≤E.length + 1:=by
 unfold swK
 cases(!rdE (evA E k) || (evA E k).od != 2)
 ·simp only[z0m]
  have h1:=c2t E R (inA R k) k (chS R (inA R k) (E.length + 1) 0)
  have h2:=d3d R (inA R k) (E.length + 1) 0
  omega
 ·simp
theorem d0r (E:List Ev) (R:List Int):∀ k,(swP E R k).length≤k * (E.length + 1):=by
 intro k
 induction k with
 | zero=>simp[swP]
 | succ k ih =>
  have:=d0p E R k
  simp only[swP,z1b,z3f]
  omega
theorem d0q {E:List Ev} {R:List Int} {p:Pq}:∀ {m:Nat},p∈swP E R m↔∃ k:Nat,k < m∧p∈swK E R k:=by
 intro m
 induction m with
 | zero=>simp[swP]
 | succ m ih =>
  simp only[swP,z0n,ih]
  constructor
  ·rintro (⟨j,h1,h2⟩ | h)
   ·exact⟨j,by omega,h2⟩
   ·exact⟨m,by omega,h⟩
  ·rintro ⟨j,h1,h2⟩
   by_cases e:j=m
   ·subst e; exact .inr h2
   ·exact .inl ⟨j,by omega,h2⟩
theorem d0o {E:List Ev} {R:List Int} {k:Int} {p:Pq}:p∈swK E R k↔rdE (evA E k)=true∧(evA E k).od=2∧∃ j,j < chS R (inA R k) (E.length + 1) 0∧p=(atF R (inA R k) j,k)∧(evA E (atF R (inA R k) j)).od=2:=by
 unfold swK
 cases h:(!rdE (evA E k) || (evA E k).od != 2)
 ·simp at h
  simp only[z0m,d0s]
  exact⟨fun x=>⟨h.1,h.2,x⟩,fun x=>x.2.2⟩
 ·simp at h
  simp only[z0f,List.not_mem_nil,false_iff]
  rintro ⟨h1,h2,_⟩
  rcases h with h | h
  ·rw[h1] at h; cases h
  ·exact h h2
theorem c5q {E:List Ev} {R:List Int} {k:Int} (hR:b4x E R) (hk:0≤k∧k < E.length) {f j:Nat} (hj:j < chS R (inA R k) f 0):0≤atF R (inA R k) j∧atF R (inA R k) j < E.length:=by
 have h0:∀ i,i < chS R (inA R k) f 0→0≤atF R (inA R k) i:=fun i hi=>by
  have:=c0a (z2j i) hi
  simp only[a6q,z1o,z1m] at this
  omega
 exact⟨h0 j hj,c5i hR (hR.2 k hk.1 hk.2) fun i hi=>h0 i (by omega)⟩
theorem c55 {E:List Ev} {R:List Int} (hR:b4x E R) (hN:E.length≤64):d9 E.length (swP E R E.length)=true:=by
 refine y7.2 ⟨by omega,by omega,fun p hp=>?_⟩
 obtain⟨k,hk,hp⟩:=d0q.1 hp
 obtain⟨_,_,j,hj,rfl,_⟩:=d0o.1 hp
 obtain⟨h1,h2⟩:=c5q hR ⟨by omega,by omega⟩ hj
 exact⟨h1,h2,by simp,by simp; omega⟩
set_option maxRecDepth 100000
theorem fo52:o8 Tryz.prog 52:=⟨Tryz.f52,Tryz.func52,by kernel_rfl,by kernel_rfl⟩
theorem d7c:o8 Tryz.prog 146:=⟨Tryz.f146,Tryz.func146,by kernel_rfl,by kernel_rfl⟩
theorem d7p {l:List (Nat × PLoop)} {t:List (Nat × (List Slot→List MBlk→List Gh))} {s:List Nat}:a1q (146,⟨Tryz.f146,l,t,s⟩):=⟨Tryz.func146,d7c⟩
def q52D (E:List Ev) (R:List Int) (M:List (List Int)):Prop:=n9 (({ calls:=[kE1 80 rdE,kChn,c3o (no 6 ++ [some (.ps (swP E R E.length))])],loops:=[(0,.of (lSw E R 14 5 6))],inl:=[chI E R 5 6 13],takes:=[(2,fun _ _=>[.fresh 5 1 67 2])] }:Kit)).tab Tryz.f52 [grV E R M] (grM E R M) ((b1l E.length (b9 E.length (w9 E R M))).post EL)
theorem d5h (E:List Ev) (R:List Int) (M:List (List Int)):q52D E R M=(
 let a:=(↑E.length:Int)
 let b:=E.length=E.length∧R.length=R.length∧M.length=M.length
 let c:=(0:Int)
 let d:=bif d9 a (swP E R E.length) then b9 a (e9 (swP E R E.length)) else []
 let e:=PLoop.of (lSw E R (14:Nat) (5:Nat) (6:Nat))
 let f:=lCh E R (5:Nat) (5:Nat) (6:Nat) (13:Nat)
 let g:=b9 a (w9 E R M)
 let h:=(1:Nat)
 let i:=E.length + h
 let l:=(0:Nat)
 let m:=(2:Int)
 let n:=a=a∧True
 let o:=c=c∧True
 let p:=(↑R.length:Int)
 let q:=bif true then(1:Int) else c
 ∃(x:PUnit),(∃(x:Nat),(x≤E.length∧True)∧(c=(↑x:Int)∧True)∧(a=a∧l=(swP E R x).length)∧(l=(swP E R x).length∧(swP E R x).length=l∧(swP E R x).length=l∧True)∧True)∧∀(x_1:Nat),x_1≤E.length∧True→(decide ((↑x_1:Int) < a)=true→(c≤(↑x_1:Int)∧(↑x_1:Int) < a)∧x_1 < E.length∧((!rdE (b8 e0 E x_1) || (b8 e0 E x_1).od !=m)=true→∃(x_2:Nat),(x_2≤E.length∧True)∧(e.ann x).mu x_2 < (e.ann x).mu x_1∧(b∧True∧True∧True∧True∧E.length=E.length∧a=a∧n∧True∧E.length=E.length∧a=a∧IntKind.i64.wrap ((↑x_1:Int) + (1:Int))=(↑x_2:Int)∧True)∧eqA E.length (g9 E)∧eqA R.length (j6 R)∧eqA M.length (l4 M)∧b∧o∧(a=a∧(swP E R x_1).length=(swP E R x_2).length)∧((swP E R x_1).length=(swP E R x_2).length∧(∀(j:Nat),j < (swP E R x_2).length→(b8 (c,c) (swP E R x_1) j).fst=(b8 (c,c) (swP E R x_2) j).fst)∧(∀(j:Nat),j < (swP E R x_2).length→(b8 (c,c) (swP E R x_1) j).snd=(b8 (c,c) (swP E R x_2) j).snd)∧True)∧True)∧((!rdE (b8 e0 E x_1) || (b8 e0 E x_1).od !=m)=false→∀(us:List Value) (cd:LupCd) (x_2:Option Addr × Nat),(c≤(↑x_1:Int)∧(↑x_1:Int) < p)∧x_1 < R.length∧∃(x_3:Nat),(∃(x:Nat),(x_3 < E.length∧rdE (evA E (↑x_3:Int))=true∧(evA E (↑x_3:Int)).od=m∧(∀(j:Nat),j < x→c≤atF R (inA R (↑x_3:Int)) j∧atF R (inA R (↑x_3:Int)) j < a)∧List.Pairwise (fun(x1 x2:Int)=>x1≠x2) (a2m R (inA R (↑x_3:Int)) x)∧chS R (inA R (↑x_3:Int)) i l=chS R (inA R (↑x_3:Int)) (E.length + h - x) x)∧(b8 c R x_1=atF R (inA R (↑x_3:Int)) x∧True)∧(a=a∧(swP E R x_1).length=(swP E R x_3 ++ swR E R (inA R (↑x_3:Int)) (↑x_3:Int) x).length)∧((swP E R x_1).length=(swP E
 R x_3 ++ swR E R (inA R (↑x_3:Int)) (↑x_3:Int) x).length∧(∀(j:Nat),j < (swP E R x_3 ++ swR E R (inA R (↑x_3:Int)) (↑x_3:Int) x).length→(b8 (c,c) (swP E R x_1) j).fst=(b8 (c,c) (swP E R x_3 ++ swR E R (inA R (↑x_3:Int)) (↑x_3:Int) x) j).fst)∧(∀(j:Nat),j < (swP E R x_3 ++ swR E R (inA R (↑x_3:Int)) (↑x_3:Int) x).length→(b8 (c,c) (swP E R x_1) j).snd=(b8 (c,c) (swP E R x_3 ++ swR E R (inA R (↑x_3:Int)) (↑x_3:Int) x) j).snd)∧True)∧(∀(x_4:Int),none=a27 (a2m R (inA R (↑x_3:Int)) x) x_4)∧True)∧∀(x_4:Nat),x_3 < E.length∧rdE (evA E (↑x_3:Int))=true∧(evA E (↑x_3:Int)).od=m∧(∀(j:Nat),j < x_4→c≤atF R (inA R (↑x_3:Int)) j∧atF R (inA R (↑x_3:Int)) j < a)∧List.Pairwise (fun(x1 x2:Int)=>x1≠x2) (a2m R (inA R (↑x_3:Int)) x_4)∧chS R (inA R (↑x_3:Int)) i l=chS R (inA R (↑x_3:Int)) (E.length + h - x_4) x_4→((decide (atF R (inA R (↑x_3:Int)) x_4 ≥ c) && !a10 (a27 (a2m R (inA R (↑x_3:Int)) x_4) (atF R (inA R (↑x_3:Int)) x_4)) !=c)=true→∀(us_1:List Value),us=us∧cd=cd∧us=us∧us=us∧cd=cd∧(c≤atF R (inA R (↑x_3:Int)) x_4∧atF R (inA R (↑x_3:Int)) x_4 < a)∧(atF R (inA R (↑x_3:Int)) x_4).toNat < E.length∧(((b8 e0 E (atF R (inA R (↑x_3:Int)) x_4).toNat).od ==m)=true→(swP E R x_3 ++ swR E R (inA R (↑x_3:Int)) (↑x_3:Int) x_4).length=(swP E R x_3 ++ swR E R (inA R (↑x_3:Int)) (↑x_3:Int) x_4).length∧h=h∧((swP E R x_3 ++ swR E R (inA R (↑x_3:Int)) (↑x_3:Int) x_4).length + h) * (16:Nat)≤(140737488355328:Nat)∧(swP E R x_3 ++ swR E R (inA R (↑x_3:Int)) (↑x_3:Int) x_4).length +
 h≤(9223372036854775807:Nat)∧us=us∧cd=cd∧us_1=us_1∧(c≤atF R (inA R (↑x_3:Int)) x_4∧atF R (inA R (↑x_3:Int)) x_4 < p)∧(atF R (inA R (↑x_3:Int)) x_4).toNat < R.length∧∃(x:Nat),(x_3 < E.length∧rdE (evA E (↑x_3:Int))=true∧(evA E (↑x_3:Int)).od=m∧(∀(j:Nat),j < x→c≤atF R (inA R (↑x_3:Int)) j∧atF R (inA R (↑x_3:Int)) j < a)∧List.Pairwise (fun(x1 x2:Int)=>x1≠x2) (a2m R (inA R (↑x_3:Int)) x)∧chS R (inA R (↑x_3:Int)) i l=chS R (inA R (↑x_3:Int)) (E.length + h - x) x)∧(f.ann x_3).mu x < (f.ann x_3).mu x_4∧(True∧True∧True∧True∧b8 c R (atF R (inA R (↑x_3:Int)) x_4).toNat=atF R (inA R (↑x_3:Int)) x∧True∧True∧R.length=R.length∧(↑x_1:Int)=(↑x_1:Int)∧x_1=x_1∧b8 c R x_1=b8 c R x_1∧True)∧eqA E.length (g9 E)∧eqA R.length (j6 R)∧eqA M.length (l4 M)∧b∧o∧(a=a∧(swP E R x_3 ++ swR E R (inA R (↑x_3:Int)) (↑x_3:Int) x_4).length + h=(swP E R x_3 ++ swR E R (inA R (↑x_3:Int)) (↑x_3:Int) x).length)∧((swP E R x_3 ++ swR E R (inA R (↑x_3:Int)) (↑x_3:Int) x_4).length + h=(swP E R x_3 ++ swR E R (inA R (↑x_3:Int)) (↑x_3:Int) x).length∧(∀(j:Nat),j < (swP E R x_3 ++ swR E R (inA R (↑x_3:Int)) (↑x_3:Int) x).length→(bif j.blt (swP E R x_3 ++ swR E R (inA R (↑x_3:Int)) (↑x_3:Int) x_4).length then(b8 (c,c) (swP E R x_3 ++ swR E R (inA R (↑x_3:Int)) (↑x_3:Int) x_4) j).fst else e8 [atF R (inA R (↑x_3:Int)) x_4] (j - (swP E R x_3 ++ swR E R (inA R (↑x_3:Int)) (↑x_3:Int) x_4).length))=(b8 (c,c) (swP E R x_3 ++ swR E R (inA R (↑x_3:Int)) (↑x_3:Int) x) j).fst)∧(∀(j:Nat),j < (swP E R x_3 ++ swR E R (inA R (↑x_3:Int))
 (↑x_3:Int) x).length→(bif j.blt (swP E R x_3 ++ swR E R (inA R (↑x_3:Int)) (↑x_3:Int) x_4).length then(b8 (c,c) (swP E R x_3 ++ swR E R (inA R (↑x_3:Int)) (↑x_3:Int) x_4) j).snd else e8 [(↑x_1:Int)] (j - (swP E R x_3 ++ swR E R (inA R (↑x_3:Int)) (↑x_3:Int) x_4).length))=(b8 (c,c) (swP E R x_3 ++ swR E R (inA R (↑x_3:Int)) (↑x_3:Int) x) j).snd)∧True)∧(↑x_1:Int)=(↑x_1:Int)∧((b8 e0 E x_1).ag=(b8 e0 E x_1).ag∧(b8 e0 E x_1).ix=(b8 e0 E x_1).ix∧(b8 e0 E x_1).k=(b8 e0 E x_1).k∧(b8 e0 E x_1).ob=(b8 e0 E x_1).ob∧(b8 e0 E x_1).mu=(b8 e0 E x_1).mu∧(b8 e0 E x_1).en=(b8 e0 E x_1).en∧(b8 e0 E x_1).od=(b8 e0 E x_1).od∧(b8 e0 E x_1).rd=(b8 e0 E x_1).rd∧(b8 e0 E x_1).wr=(b8 e0 E x_1).wr)∧b∧(↑x_1:Int)=(↑x_1:Int)∧((b∧True∧True∧True∧True∧True∧True∧True∧E.length=E.length∧a=a∧n∧True∧E.length=E.length∧a=a∧(↑x_1:Int)=(↑x_1:Int)∧true=true∧(↑x_1:Int)=(↑x_1:Int)∧x_1=x_1∧((b8 e0 E x_1).ag=(b8 e0 E x_1).ag∧(b8 e0 E x_1).ix=(b8 e0 E x_1).ix∧(b8 e0 E x_1).k=(b8 e0 E x_1).k∧(b8 e0 E x_1).ob=(b8 e0 E x_1).ob∧(b8 e0 E x_1).mu=(b8 e0 E x_1).mu∧(b8 e0 E x_1).en=(b8 e0 E x_1).en∧(b8 e0 E x_1).od=(b8 e0 E x_1).od∧(b8 e0 E x_1).rd=(b8 e0 E x_1).rd∧(b8 e0 E x_1).wr=(b8 e0 E x_1).wr)∧((b8 e0 E x_1).ag=(b8 e0 E x_1).ag∧(b8 e0 E x_1).ix=(b8 e0 E x_1).ix∧(b8 e0 E x_1).k=(b8 e0 E x_1).k∧(b8 e0 E x_1).ob=(b8 e0 E x_1).ob∧(b8 e0 E x_1).mu=(b8 e0 E x_1).mu∧(b8 e0 E x_1).en=(b8 e0 E x_1).en∧(b8 e0 E x_1).od=(b8 e0 E x_1).od∧(b8 e0 E x_1).rd=(b8 e0 E x_1).rd∧(b8 e0 E x_1).wr=(b8 e0 E x_1).wr)∧rdE (b8 e0 E x_1)=rdE (b8 e0 E
 x_1)∧(!rdE (b8 e0 E x_1)) =!rdE (b8 e0 E x_1)∧(!rdE (b8 e0 E x_1)) =!rdE (b8 e0 E x_1)∧True∧True∧True∧false=false∧b∧(↑x_1:Int)=(↑x_1:Int)∧(True∧True)∧True∧True∧True∧True∧True∧True∧True∧True∧True∧True∧True∧True∧True∧True∧True∧True∧True∧True∧True)∧us=us)∧(us=us∧cd=cd)∧(∀(x_5:Int),(bif x_5 ==atF R (inA R (↑x_3:Int)) x_4 then some q else a27 (a2m R (inA R (↑x_3:Int)) x_4) x_5)=a27 (a2m R (inA R (↑x_3:Int)) x) x_5)∧True)∧(((b8 e0 E (atF R (inA R (↑x_3:Int)) x_4).toNat).od ==m)=false→us=us∧cd=cd∧us_1=us_1∧(c≤atF R (inA R (↑x_3:Int)) x_4∧atF R (inA R (↑x_3:Int)) x_4 < p)∧(atF R (inA R (↑x_3:Int)) x_4).toNat < R.length∧∃(x:Nat),(x_3 < E.length∧rdE (evA E (↑x_3:Int))=true∧(evA E (↑x_3:Int)).od=m∧(∀(j:Nat),j < x→c≤atF R (inA R (↑x_3:Int)) j∧atF R (inA R (↑x_3:Int)) j < a)∧List.Pairwise (fun(x1 x2:Int)=>x1≠x2) (a2m R (inA R (↑x_3:Int)) x)∧chS R (inA R (↑x_3:Int)) i l=chS R (inA R (↑x_3:Int)) (E.length + h - x) x)∧(f.ann x_3).mu x < (f.ann x_3).mu x_4∧(True∧True∧True∧True∧b8 c R (atF R (inA R (↑x_3:Int)) x_4).toNat=atF R (inA R (↑x_3:Int)) x∧True∧True∧R.length=R.length∧(↑x_1:Int)=(↑x_1:Int)∧x_1=x_1∧b8 c R x_1=b8 c R x_1∧True)∧eqA E.length (g9 E)∧eqA R.length (j6 R)∧eqA M.length (l4 M)∧b∧o∧(a=a∧(swP E R x_3 ++ swR E R (inA R (↑x_3:Int)) (↑x_3:Int) x_4).length=(swP E R x_3 ++ swR E R (inA R (↑x_3:Int)) (↑x_3:Int) x).length)∧((swP E R x_3 ++ swR E R (inA R (↑x_3:Int)) (↑x_3:Int) x_4).length=(swP E R x_3 ++ swR E R (inA R (↑x_3:Int)) (↑x_3:Int) x).length∧(∀(j:Nat),j < (swP E R x_3 ++ swR E
 R (inA R (↑x_3:Int)) (↑x_3:Int) x).length→(b8 (c,c) (swP E R x_3 ++ swR E R (inA R (↑x_3:Int)) (↑x_3:Int) x_4) j).fst=(b8 (c,c) (swP E R x_3 ++ swR E R (inA R (↑x_3:Int)) (↑x_3:Int) x) j).fst)∧(∀(j:Nat),j < (swP E R x_3 ++ swR E R (inA R (↑x_3:Int)) (↑x_3:Int) x).length→(b8 (c,c) (swP E R x_3 ++ swR E R (inA R (↑x_3:Int)) (↑x_3:Int) x_4) j).snd=(b8 (c,c) (swP E R x_3 ++ swR E R (inA R (↑x_3:Int)) (↑x_3:Int) x) j).snd)∧True)∧(↑x_1:Int)=(↑x_1:Int)∧((b8 e0 E x_1).ag=(b8 e0 E x_1).ag∧(b8 e0 E x_1).ix=(b8 e0 E x_1).ix∧(b8 e0 E x_1).k=(b8 e0 E x_1).k∧(b8 e0 E x_1).ob=(b8 e0 E x_1).ob∧(b8 e0 E x_1).mu=(b8 e0 E x_1).mu∧(b8 e0 E x_1).en=(b8 e0 E x_1).en∧(b8 e0 E x_1).od=(b8 e0 E x_1).od∧(b8 e0 E x_1).rd=(b8 e0 E x_1).rd∧(b8 e0 E x_1).wr=(b8 e0 E x_1).wr)∧b∧(↑x_1:Int)=(↑x_1:Int)∧((b∧True∧True∧True∧True∧True∧True∧True∧E.length=E.length∧a=a∧n∧True∧E.length=E.length∧a=a∧(↑x_1:Int)=(↑x_1:Int)∧true=true∧(↑x_1:Int)=(↑x_1:Int)∧x_1=x_1∧((b8 e0 E x_1).ag=(b8 e0 E x_1).ag∧(b8 e0 E x_1).ix=(b8 e0 E x_1).ix∧(b8 e0 E x_1).k=(b8 e0 E x_1).k∧(b8 e0 E x_1).ob=(b8 e0 E x_1).ob∧(b8 e0 E x_1).mu=(b8 e0 E x_1).mu∧(b8 e0 E x_1).en=(b8 e0 E x_1).en∧(b8 e0 E x_1).od=(b8 e0 E x_1).od∧(b8 e0 E x_1).rd=(b8 e0 E x_1).rd∧(b8 e0 E x_1).wr=(b8 e0 E x_1).wr)∧((b8 e0 E x_1).ag=(b8 e0 E x_1).ag∧(b8 e0 E x_1).ix=(b8 e0 E x_1).ix∧(b8 e0 E x_1).k=(b8 e0 E x_1).k∧(b8 e0 E x_1).ob=(b8 e0 E x_1).ob∧(b8 e0 E x_1).mu=(b8 e0 E x_1).mu∧(b8 e0 E x_1).en=(b8 e0 E x_1).en∧(b8 e0 E x_1).od=(b8 e0 E x_1).od∧(b8 e0 E x_1).rd=(b8 e0
 E x_1).rd∧(b8 e0 E x_1).wr=(b8 e0 E x_1).wr)∧rdE (b8 e0 E x_1)=rdE (b8 e0 E x_1)∧(!rdE (b8 e0 E x_1)) =!rdE (b8 e0 E x_1)∧(!rdE (b8 e0 E x_1)) =!rdE (b8 e0 E x_1)∧True∧True∧True∧false=false∧b∧(↑x_1:Int)=(↑x_1:Int)∧(True∧True)∧True∧True∧True∧True∧True∧True∧True∧True∧True∧True∧True∧True∧True∧True∧True∧True∧True∧True∧True)∧us=us)∧(us=us∧cd=cd)∧(∀(x_5:Int),(bif x_5 ==atF R (inA R (↑x_3:Int)) x_4 then some q else a27 (a2m R (inA R (↑x_3:Int)) x_4) x_5)=a27 (a2m R (inA R (↑x_3:Int)) x) x_5)∧True))∧((decide (atF R (inA R (↑x_3:Int)) x_4 ≥ c) && !a10 (a27 (a2m R (inA R (↑x_3:Int)) x_4) (atF R (inA R (↑x_3:Int)) x_4)) !=c) =!true→us=us∧us=us∧cd=cd∧∃(x_5:Nat),(x_5≤E.length∧True)∧(e.ann x).mu x_5 < (e.ann x).mu x_1∧(b∧True∧True∧True∧True∧E.length=E.length∧a=a∧n∧True∧E.length=E.length∧a=a∧IntKind.i64.wrap ((↑x_1:Int) + (1:Int))=(↑x_5:Int)∧True)∧eqA E.length (g9 E)∧eqA R.length (j6 R)∧eqA M.length (l4 M)∧b∧o∧(a=a∧(swP E R x_3 ++ swR E R (inA R (↑x_3:Int)) (↑x_3:Int) x_4).length=(swP E R x_5).length)∧((swP E R x_3 ++ swR E R (inA R (↑x_3:Int)) (↑x_3:Int) x_4).length=(swP E R x_5).length∧(∀(j:Nat),j < (swP E R x_5).length→(b8 (c,c) (swP E R x_3 ++ swR E R (inA R (↑x_3:Int)) (↑x_3:Int) x_4) j).fst=(b8 (c,c) (swP E R x_5) j).fst)∧(∀(j:Nat),j < (swP E R x_5).length→(b8 (c,c) (swP E R x_3 ++ swR E R (inA R (↑x_3:Int)) (↑x_3:Int) x_4) j).snd=(b8 (c,c) (swP E R x_5) j).snd)∧True)∧True)))∧(decide ((↑x_1:Int) < a)=false→(swP E R x_1).length=(swP E R x_1).length∧mkN (fun(j:Nat)=>((b8 (c,c) (swP E R
 x_1) j).fst,(b8 (c,c) (swP E R x_1) j).snd)) (swP E R x_1).length=swP E R E.length∧(swP E R E.length).length≤(1099511627776:Nat)∧(AV.ps d).len=(AV.ps g).len∧((∀(j:Nat),j < (AV.ps g).len→(b8 (c,c) d j).fst=(b8 (c,c) g j).fst)∧(∀(j:Nat),j < (AV.ps g).len→(b8 (c,c) d j).snd=(b8 (c,c) g j).snd)∧True)∧(bif d9 a (swP E R E.length) then a else c)=a∧(AV.ps d).len=(AV.ps g).len∧True)):=by kernel_rfl
theorem v52 (E:List Ev) (R:List Int) (M:List (List Int)) (h:pgS E R M 0 0):q52D E R M:=by
 rw[d5h]
 have h64:(E.length:Int)≤64:=h.1
 have hR:b4x E R:=h.2
 have hRl:=hR.1
 have hb1:∀ k,k≤E.length→(swP E R k).length≤64 * 65:=fun k hk=>Nat.le_trans (d0r E R k) (z2x (by omega) (by omega))
 simp only[eq_self,true_and,and_true,z0p,imp_self,m5,n5,o0,g8,i9,PLoop.of,s5,AV.len,j5,z0v,j8,l5,l6,m6,m7,m8,lSw,lCh,PLoop.of]
 refine⟨(),⟨0,by omega,rfl,rfl,rfl,rfl,rfl⟩,fun k hk=>⟨fun hlk=>?_,fun hlk=>?_⟩⟩
 ·have hk2:k < E.length:=by have:=z0e hlk; omega
  have hw:=wrS (n:=E.length) hk2 (by omega)
  refine⟨⟨by omega,by omega⟩,hk2,fun hc=>?_,fun hc=>?_⟩
  ·have e:swP E R (k + 1)=swP E R k:=by
    have:swK E R k=[]:=by unfold swK; rw[show(!rdE (evA E k) || (evA E k).od != 2)=true from hc]; rfl
    rw[swP,this,z1f]
   refine⟨k + 1,by omega,by omega,hw,?_⟩
   rw[e]; simp
  ·have hc2:rdE (evA E k)=true∧(evA E k).od=2:=by
    have hc3:(!rdE (evA E k) || (evA E k).od != 2)=false:=hc
    simpa using hc3
   have hx:inA R k < E.length:=hR.2 k (by omega) (by omega)
   refine fun cd=>⟨⟨by omega,by omega⟩,by omega,k,⟨0,⟨hk2,hc2.1,hc2.2,fun j hj=>absurd hj (z1l _),by simp[a2m],rfl⟩,rfl,by simp[swR],⟨by simp[swR],by simp[swR]⟩,fun _=>rfl⟩,fun s hs=>?_⟩
   obtain⟨_,_,_,s1,s2,s3⟩:=hs
   have s2:(a2m R (inA R k) s).Nodup:=s2
   have hsn:=d6b s2 s1
   simp only[b9w]
   have hlt:=c5i hR hx (s:=s) fun j hj=>(s1 j hj).1
   have hl1:=c2t E R (inA R k) k s
   have hl2:=hb1 k hk
   refine⟨fun hcd=>?_,fun hcd=>?_⟩
   ·have he:=c5p hcd
    have h0:0≤atF R (inA R k) s:=by
     simp only[z0d,z1p] at hcd; exact hcd.1
    have hnin:atF R (inA R k) s ∉ a2m R (inA R k) s:=by
     simp only[z0d,z0x] at hcd
     simpa using hcd.2
    have hvis:a2m R (inA R k) (s + 1)=a2m R (inA R k) s ++ [atF R (inA R k) s]:=rfl
    have hset:∀ y:Int,(bif y == atF R (inA R k) s then some 1 else a27 (a2m R (inA R k) s) y)=a27 (a2m R (inA R k) (s + 1)) y:=fun y=>by rw[hvis]; exact b5u _ _ _
    have hnx:k < E.length∧rdE (evA E k)=true∧(evA E k).od=2∧(∀ j:Nat,j < s + 1→0≤atF R (inA R k) j∧atF R (inA R k) j < E.length)∧(a2m R (inA R k) (s + 1)).Nodup∧chS R (inA R k) (E.length + 1) 0=chS R (inA R k) (E.length + 1 - (s + 1)) (s + 1):=by
     refine⟨hk2,hc2.1,hc2.2,fun j hj=>?_,?_,?_⟩
     ·by_cases e:j=s
      ·subst e; exact⟨h0,hlt⟩
      ·exact s1 j (by omega)
     ·rw[hvis,List.nodup_append]
      refine⟨s2,by simp,fun a ha b hb=>?_⟩
      simp at hb
      subst hb
      exact fun e=>hnin (e ▸ ha)
     ·rw[s3,show E.length + 1 - s=(E.length + 1 - (s + 1)) + 1 by omega,b2l he]
    have hlt2:(atF R (inA R k) s).toNat < E.length:=by omega
    refine⟨⟨h0,hlt⟩,hlt2,fun ho=>⟨by rw[z1b]; omega,by rw[z1b]; omega,⟨h0,by omega⟩,by omega,s + 1,hnx,by omega,rfl,?_⟩,fun ho=>⟨⟨h0,by omega⟩,by omega,s + 1,hnx,by omega,rfl,?_⟩⟩
    ·have e:swR E R (inA R k) k (s + 1)=swR E R (inA R k) k s ++ [(atF R (inA R k) s,(k:Int))]:=by
      rw[swR,show((evA E (atF R (inA R k) s)).od == 2)=true from ho,z0f]
     rw[e,← z1y]
     have e3:(swP E R k ++ swR E R (inA R k) k s ++ [(atF R (inA R k) s,(k:Int))]).length=(swP E R k ++ swR E R (inA R k) k s).length + 1:=by rw[z1b (bs:=[(atF R (inA R k) s,(k:Int))])]; rfl
     exact⟨e3.symm,⟨e3.symm,ap1 (·.1) _ _,ap1 (·.2) _ _⟩,hset⟩
    ·have e:swR E R (inA R k) k (s + 1)=swR E R (inA R k) k s:=by
      rw[swR,show((evA E (atF R (inA R k) s)).od == 2)=false from ho,z0m]
     rw[e]
     exact⟨rfl,⟨rfl,fun _ _=>rfl,fun _ _=>rfl⟩,hset⟩
   ·have he:=c33 hcd
    have e1:chS R (inA R k) (E.length + 1) 0=s:=by
     rw[s3,show E.length + 1 - s=(E.length - s) + 1 by omega,b2m he]
    have e:swP E R (k + 1)=swP E R k ++ swR E R (inA R k) k s:=by
     have:swK E R k=swR E R (inA R k) k s:=by
      unfold swK
      rw[show(!rdE (evA E k) || (evA E k).od != 2)=false from hc,z0m,e1]
     rw[swP,this]
    refine⟨k + 1,by omega,by omega,hw,?_⟩
    rw[e]
    simp
 ·have hk2:k=E.length:=by have:=z0l hlk; omega
  subst hk2
  have h1:=hb1 E.length (z0q _)
  rw[c55 hR (by omega)]
  simp only[z0f,w9]
  simp only[z0p,and_self,and_true,true_and]
  omega
theorem n52 (nm:List (Option AV)):CallOk Tryz.prog [] 52 (n8 EL none nm [PG] (a6g pgS w9)):=y5 Tryz.func52 fo52 fun av pre rv h=>by
 unfold a6g at h; split at h <;> cases h
 exact⟨⟨rfl,fun t a e=>by cases e <;> exact z0k _ _⟩,fun hp=>⟨_,v52 _ _ _ (hp _ (.head _)),rfl,(m9 (n80 _) (m9 n108 (m9 (c48 _) v4))),(a3q d7p v5)⟩⟩
def o5 (l:List (Int × List Pq)):Nat→List Pq
 | 0=>[]
 | j + 1=>o5 l j ++ (b8 (0,[]) l j).2
def c9m (n:Int) (l:List (Int × List Pq)) (t c e:Nat):LAnn:=s5 l.length t (fun _=>True) (fun j=>[(c,.cells [.i .i64 n,.sl e (o5 l j).length]),b8x e (o5 l j)]) [e]
def d43:SpG:=fun
 | [.lf (.i n),.lf (.rl l)]=>some ([(l.length≤64∧d9 n (o5 l l.length)=true)∧∀ j,j≤l.length→(o5 l j).length≤1000000],b1l n (b9 n (wF (e9 (o5 l l.length)) n.toNat)))
 | _=>none
def kClz (nm:List (Option AV)):Nat × (List MBlk→List SV→Option AR):=(54,n8 EL none nm [.lf .i,.lf .rl] d43)
theorem fo54:o8 Tryz.prog 54:=⟨Tryz.f54,Tryz.func54,by kernel_rfl,by kernel_rfl⟩
def q54D (n:Int) (l:List (Int × List Pq)):Prop:=n9 (({ calls:=[kClo (no 3 ++ [some (.ps (o5 l l.length))])],loops:=[(0,.of (c9m n l 12 2 3))],takes:=[(2,fun _ _=>[.fresh 2 1 67 2])] }:Kit)).tab Tryz.f54 [.i .i64 n,.sl 0 l.length] [.arr l.length (b3u l)] ((b1l n (b9 n (wF (e9 (o5 l l.length)) n.toNat))).post EL)
theorem d5i (n:Int) (l:List (Int × List Pq)):q54D n l=(
 let a:=wF (e9 (o5 l l.length)) n.toNat
 let b:=(0:Int)
 let c:=bif d9 n (o5 l l.length) then b9 n a else []
 let d:=(↑l.length:Int)
 let e:=PLoop.of (c9m n l (12:Nat) (2:Nat) (3:Nat))
 let f:=AV.ps (b9 n a)
 ∃(x:PUnit),(∃(x:Nat),(x≤l.length∧True)∧(b=(↑x:Int)∧True)∧(n=n∧(0:Nat)=(o5 l x).length)∧((0:Nat)=(o5 l x).length∧(o5 l x).length=(0:Nat)∧(o5 l x).length=(0:Nat)∧True)∧True)∧∀(x_1:Nat),x_1≤l.length∧True→(decide ((↑x_1:Int) < d)=true→(b≤(↑x_1:Int)∧(↑x_1:Int) < d)∧x_1 < l.length∧(o5 l x_1).length=(o5 l x_1).length∧(b8 (b,[]) l x_1).snd.length=(b8 (b,[]) l x_1).snd.length∧((o5 l x_1).length + (b8 (b,[]) l x_1).snd.length) * (16:Nat)≤(140737488355328:Nat)∧(o5 l x_1).length + (b8 (b,[]) l x_1).snd.length≤(9223372036854775807:Nat)∧∃(x_2:Nat),(x_2≤l.length∧True)∧(e.ann x).mu x_2 < (e.ann x).mu x_1∧(n=n∧l.length=l.length∧True∧True∧n=n∧(n=n∧True)∧l.length=l.length∧d=d∧IntKind.i64.wrap ((↑x_1:Int) + (1:Int))=(↑x_2:Int)∧True)∧eqA l.length (b3u l)∧(b=b∧True)∧(n=n∧(o5 l x_1).length + (b8 (b,[]) l x_1).snd.length=(o5 l x_2).length)∧((o5 l x_1).length + (b8 (b,[]) l x_1).snd.length=(o5 l x_2).length∧(∀(j:Nat),j < (o5 l x_2).length→(bif j.blt (o5 l x_1).length then(b8 (b,b) (o5 l x_1) j).fst else(b8 (b,b) (b8 (b,[]) l x_1).snd (j - (o5 l x_1).length)).fst)=(b8 (b,b) (o5 l x_2) j).fst)∧(∀(j:Nat),j < (o5 l x_2).length→(bif j.blt (o5 l x_1).length then(b8 (b,b) (o5 l x_1) j).snd else(b8 (b,b) (b8 (b,[]) l x_1).snd (j - (o5 l x_1).length)).snd)=(b8 (b,b) (o5 l x_2) j).snd)∧True)∧True)∧(decide ((↑x_1:Int) < d)=false→(o5 l x_1).length=(o5 l x_1).length∧mkN (fun(j:Nat)=>((b8 (b,b) (o5 l x_1) j).fst,(b8 (b,b) (o5 l x_1) j).snd)) (o5 l x_1).length=o5 l l.length∧(o5 l
 l.length).length≤(1099511627776:Nat)∧(AV.ps c).len=f.len∧((∀(j:Nat),j < f.len→(b8 (b,b) c j).fst=(b8 (b,b) (b9 n a) j).fst)∧(∀(j:Nat),j < f.len→(b8 (b,b) c j).snd=(b8 (b,b) (b9 n a) j).snd)∧True)∧(bif d9 n (o5 l l.length) then n else b)=n∧(AV.ps c).len=f.len∧True)):=by kernel_rfl
theorem v54 (n:Int) (l:List (Int × List Pq)) (h:(l.length≤64∧d9 n (o5 l l.length)=true)∧∀ j,j≤l.length→(o5 l j).length≤1000000):q54D n l:=by
 rw[d5i]
 obtain⟨⟨hl,hv⟩,hb⟩:=h
 simp only[eq_self,true_and,and_true,z0p,imp_self,m5,n5,o0,g8,i9,PLoop.of,s5,AV.len,j5,z0v,j8,l5,l6,m6,m7,m8,c9m]
 refine⟨(),⟨0,by omega,rfl,rfl,rfl,rfl,rfl⟩,fun j hj=>⟨fun hlj=>?_,fun hlj=>?_⟩⟩
 ·have hj2:j < l.length:=by have:=z0e hlj; omega
  have h1:=hb (j + 1) (by omega)
  have e:o5 l (j + 1)=o5 l j ++ (b8 (0,[]) l j).2:=rfl
  have h2:(o5 l (j + 1)).length=(o5 l j).length + (b8 (0,[]) l j).2.length:=by rw[e,z1b]
  rw[h2] at h1
  refine⟨⟨by omega,by omega⟩,hj2,by omega,by omega,j + 1,by omega,by omega,wrS (n:=l.length) hj2 (by omega),h2.symm,h2.symm,?_,?_⟩
  ·rw[e]; exact fun j _=>ap2 (·.1) _ _ j
  ·rw[e]; exact fun j _=>ap2 (·.2) _ _ j
 ·have hj2:j=l.length:=by have:=z0l hlj; omega
  subst hj2
  have h1:=hb l.length (z0q _)
  rw[hv]
  simp only[z0f,z0p,and_self,and_true,true_and]
  omega
theorem n54 (nm:List (Option AV)):CallOk Tryz.prog [] 54 (n8 EL none nm [.lf .i,.lf .rl] d43):=y5 Tryz.func54 fo54 fun av pre rv h=>by
 unfold d43 at h; split at h <;> cases h
 exact⟨⟨rfl,fun t a e=>by cases e <;> exact z0k _ _⟩,fun hp=>⟨_,v54 _ _ (hp _ (.head _)),rfl,(m9 (n110 _) v4),v5⟩⟩
def nmT (E:List Ev) (R:List Int) (M:List (List Int)):List (Option AV):=[none,some (.es E),some (.is R),some (.rs M)]
def grT (E:List Ev) (R:List Int) (M:List (List Int)):List MBlk:=[tbl,.arr E.length (g9 E),.arr R.length (j6 R),.arr M.length (l4 M)]
def b4k (E:List Ev) (R:List Int) (M:List (List Int)):SV:=.agg [.sl 1 E.length,.sl 2 R.length,.sl 3 M.length]
def kRl (n:Nat) (S:SpG) (nm:List (Option AV)):Nat × (List MBlk→List SV→Option AR):=(n,n8 EL none nm [PG] S)
def c0n (n:Nat) (S:SpG) (nm:List (Option AV)):Nat × (List MBlk→List SV→Option AR):=(n,n8 EL gbT nm [PG] S)
def kLis:Nat × (List MBlk→List SV→Option AR):=(57,c06)
noncomputable def c0r (n:Nat) (fn:Func):List (Nat × Inl):=[(47,{ fn:=Tryz.f47 }),(n,{ fn:=fn })]
end Go.Proofs.YtaeeaniofljmnaaGreatDoor

/-
  A part of the proof (K4).
-/
import Derived.Test.YtaeeaniofljmnaaGreatDoorK2
namespace Go.Proofs.YtaeeaniofljmnaaGreatDoor
set_option linter.unusedSimpArgs false
set_option linter.unusedVariables false
open Go Go.Proofs.YtaeeaniofljmnaaGreatDoor.Sx
set_option maxRecDepth 100000
theorem okT {fid:FuncId} {fn:Func} {ks:List AK} {S:List AV→Option (List Prop × RV)} (hfn:Tryz.prog.funcs[fid]?=some fn) (hok:s5 Tryz.prog fid) (T:List AV→Tab) (hT:∀ av,TabOk Tryz.prog (T av)) (hg:∀ av,(T av).globals=[]∧(T av).pins=[])
  (hres:∀ av pre rv,S av=some (pre,rv)→rv.ok=true∧(∀ t a,rv=.sl t a→a.cols≠[]))
  (hv:∀ av pre rv,S av=some (pre,rv)→(∀ p∈pre,p)→s4 (T av) fn (a5e 0 av) (a0k av) (rv.post EL)):CallOk Tryz.prog [] fid (a29 EL [] ks S):=
 d56 hfn hok hres fun av pre rv h hp=>⟨_,hT av,(hg av).1,(hg av).2,hv av pre rv h hp⟩
theorem e0l:s5 Tryz.prog 119:=⟨Tryz.f119,Tryz.func119,by kernel_rfl,by kernel_rfl⟩
theorem e07:s5 Tryz.prog 103:=⟨Tryz.f103,Tryz.func103,by kernel_rfl,by kernel_rfl⟩
theorem e17:s5 Tryz.prog 148:=⟨Tryz.f148,Tryz.func148,by kernel_rfl,by kernel_rfl⟩
theorem e16:s5 Tryz.prog 147:=⟨Tryz.f147,Tryz.func147,by kernel_rfl,by kernel_rfl⟩
theorem fo46:s5 Tryz.prog 46:=⟨Tryz.f46,Tryz.func46,by kernel_rfl,by kernel_rfl⟩
theorem e0d:s5 Tryz.prog 109:=⟨Tryz.f109,Tryz.func109,by kernel_rfl,by kernel_rfl⟩
def d83:List AV→Tab
 | [.r N l]=>tab [] [(0,.of (a8q N l 16))]
 | _=>tab [] []
theorem c119:CallOk Tryz.prog [] 119 (a29 EL [] [.r] b6i):=by
 refine okT (fn:=Tryz.f119) Tryz.func119 e0l d83 (fun av=>?_) (fun av=>?_) (fun av pre rv h=>?_) (fun av pre rv h hp=>?_)
 ·unfold d83; split <;> first | exact a4z a70 | exact a4z a70
 ·unfold d83; split <;> exact⟨rfl,rfl⟩
 ·unfold b6i at h; split at h <;> cases h
  exact⟨rfl,fun t a e=>by cases e <;> exact z0h _ _⟩
 ·unfold b6i at h; split at h <;> cases h
  exact v119 _ _ (hp _ (.head _))
theorem d6v (nm:List (Option AV)):CallOk Tryz.prog [] 119 (a29 EL nm [.r] b6i):=a90 c119
def d80:List AV→Tab
 | [.r N l]=>tab [] [(0,.of (a8q N l 3))]
 | _=>tab [] []
theorem c103:CallOk Tryz.prog [] 103 (a29 EL [] [.r] b6i):=by
 refine okT (fn:=Tryz.f103) Tryz.func103 e07 d80 (fun av=>?_) (fun av=>?_) (fun av pre rv h=>?_) (fun av pre rv h hp=>?_)
 ·unfold d80; split <;> first | exact a4z a70 | exact a4z a70
 ·unfold d80; split <;> exact⟨rfl,rfl⟩
 ·unfold b6i at h; split at h <;> cases h
  exact⟨rfl,fun t a e=>by cases e <;> exact z0h _ _⟩
 ·unfold b6i at h; split at h <;> cases h
  exact v103 _ _ (hp _ (.head _))
theorem n103 (nm:List (Option AV)):CallOk Tryz.prog [] 103 (a29 EL nm [.r] b6i):=a90 c103
def d85:List AV→Tab
 | [.r N l]=>tab [] [(0,.of (b4n l 10 2))]
 | _=>tab [] []
theorem c148:CallOk Tryz.prog [] 148 (a29 EL [] [.r] d0n):=by
 refine okT (fn:=Tryz.f148) Tryz.func148 e17 d85 (fun av=>?_) (fun av=>?_) (fun av pre rv h=>?_) (fun av pre rv h hp=>?_)
 ·unfold d85; split <;> first | exact a4z a70 | exact a4z a70
 ·unfold d85; split <;> exact⟨rfl,rfl⟩
 ·unfold d0n at h; split at h <;> cases h
  exact⟨rfl,fun t a e=>by cases e <;> exact z0h _ _⟩
 ·unfold d0n at h; split at h <;> cases h
  exact v148 _ _ (hp _ (.head _))
theorem n148 (nm:List (Option AV)):CallOk Tryz.prog [] 148 (a29 EL nm [.r] d0n):=a90 c148
def d84:List AV→Tab
 | [.i n,.mp f]=>d3h [] [(0,.of (b4l n f 11)),(2,b1f n f 15)] 2 [.fresh 2 1 67 2]
 | _=>tab [] []
theorem c147:CallOk Tryz.prog [] 147 (a29 EL [] [.i,.mp] d0i):=by
 refine okT (fn:=Tryz.f147) Tryz.func147 e16 d84 (fun av=>?_) (fun av=>?_) (fun av pre rv h=>?_) (fun av pre rv h hp=>?_)
 ·unfold d84; split <;> first | exact d89 a70 | exact a4z a70
 ·unfold d84; split <;> exact⟨rfl,rfl⟩
 ·unfold d0i at h; split at h <;> cases h
  exact⟨rfl,fun t a e=>by cases e <;> exact z0h _ _⟩
 ·unfold d0i at h; split at h <;> cases h
  exact v147 _ _ (hp _ (.head _))
theorem d6x (nm:List (Option AV)):CallOk Tryz.prog [] 147 (a29 EL nm [.i,.mp] d0i):=a90 c147
def t46:List AV→Tab
 | [.r N l,.i a,.i b]=>tab [c8h []] [(0,.of (b4k l a b 7))]
 | _=>tab [] []
theorem c46:CallOk Tryz.prog [] 46 (a29 EL [] [.r,.i,.i] d0g):=by
 refine okT (fn:=Tryz.f46) Tryz.func46 fo46 t46 (fun av=>?_) (fun av=>?_) (fun av pre rv h=>?_) (fun av pre rv h hp=>?_)
 ·unfold t46; split <;> first | exact a4z (b2x (n103 _) a70) | exact a4z a70
 ·unfold t46; split <;> exact⟨rfl,rfl⟩
 ·unfold d0g at h; split at h <;> cases h
  exact⟨rfl,fun t a e=>by cases e <;> exact z0h _ _⟩
 ·unfold d0g at h; split at h <;> cases h
  exact v46 _ _ _ _ (hp _ (.head _))
theorem n46 (nm:List (Option AV)):CallOk Tryz.prog [] 46 (a29 EL nm [.r,.i,.i] d0g):=a90 c46
def d81:List AV→Tab
 | [.r N l]=>tab [b8f [],c5x [],b8e []] []
 | _=>tab [] []
theorem c109:CallOk Tryz.prog [] 109 (a29 EL [] [.r] d0h):=by
 refine okT (fn:=Tryz.f109) Tryz.func109 e0d d81 (fun av=>?_) (fun av=>?_) (fun av pre rv h=>?_) (fun av pre rv h hp=>?_)
 ·unfold d81; split <;> first | exact a4z (b2x (d6v _) (b2x (n148 _) (b2x (d6x _) a70))) | exact a4z a70
 ·unfold d81; split <;> exact⟨rfl,rfl⟩
 ·unfold d0h at h; split at h <;> cases h
  exact⟨rfl,fun t a e=>by cases e <;> exact z0h _ _⟩
 ·unfold d0h at h; split at h <;> cases h
  exact v109 _ _ (hp _ (.head _))
theorem c6g (nm:List (Option AV)):CallOk Tryz.prog [] 109 (a29 EL nm [.r] d0h):=a90 c109
def a8a (P:List Pq) (a:Nat):List Int:=(P.filter (fun p=>p.1 == (a:Int))).map (·.2)
def a0c (n:Nat) (P:List Pq):List (List Int):=mkN (a8a P) n
def a08 (n:Nat) (f:Pf):List (List Int):=mkN (fun a=>(e9 f a n).map (·.2)) n
def orw (n:Nat) (R:List (List Int)):MBlk:=.orows 23 3 n none none (fun j=>(b7 [] R j).length) [fun j i=>b7 0 (b7 [] R j) i]
def c64 (N:Int) (P:List Pq) (t e:Nat):LAnn:=s8 P.length t (fun _=>True) (fun i=>[(e,orw N.toNat (a0c N.toNat (P.take i)))]) []
def d3i (calls:a2o) (loops:List (Nat × PLoop)) (id:Nat) (g:List MBlk→List Gh):Tab:=⟨a8e,[],calls,loops,[],[],[(id,fun _ m=>g m)],[],[],none,false⟩
theorem d8a {calls:a2o} {loops:List (Nat × PLoop)} {id:Nat} {g:List MBlk→List Gh} (h:∀ p∈calls,CallOk Tryz.prog [] p.1 p.2):TabOk Tryz.prog (d3i calls loops id g):=⟨mixed,tys,ints,fun _ _ hf=>h _ (a09 hf),fun _ _ hf=>(by cases hf),fun _ _ hf=>(by cases hf),fun _ hf=>by cases hf⟩
def d14 (box out:Nat):List MBlk→List Gh:=fun m=>match nth m box with
 | some (.cells (.i _ a :: _))=>[.take out a.toNat]
 | _=>[]
def d0o:Sp:=fun | [.r N l]=>some ([g7 N l=true,L9 l],.sl (fun k=>.sl 0 k) (.rs (a08 N.toNat (f7 l)))) | _=>none
def kSuc (nm:List (Option AV)):Nat × (List MBlk→List SV→Option AR):=(150,a29 EL nm [.r] d0o)
theorem a5a {n a:Nat} {P:List Pq} (h:a < n):b7 [] (a0c n P) a=a8a P a:=x7 _ _ h
theorem c1c {P Q:List Pq} {a:Nat}:a8a (P ++ Q) a=a8a P a ++ a8a Q a:=by simp[a8a]
theorem c78 {P:List Pq} {i:Nat} (h:i < P.length) (a:Nat):a8a (P.take (i + 1)) a=a8a (P.take i) a ++ (if (b7 (0,0) P i).1=(a:Int) then [(b7 (0,0) P i).2] else []):=by
 rw[a7a (0,0) h,c1c]
 congr 1
 by_cases e:(b7 (0,0) P i).1=(a:Int) <;> simp[a8a,e]
theorem d0s {f:Pf} {a b k:Nat}:a8a (e9 f b k) a=if a=b then(e9 f a k).map (·.2) else []:=by
 by_cases e:a=b
 ·subst e
  rw[if_pos rfl,a8a,List.filter_eq_self.2]
  intro p hp
  obtain⟨_,_,_,rfl⟩:=a82.1 hp
  simp
 ·rw[if_neg e,a8a,List.filter_eq_nil_iff.2]
  ·rfl
  ·intro p hp
   obtain⟨_,_,_,rfl⟩:=a82.1 hp
   simp only[beq_iff_eq]
   omega
theorem d0q {f:Pf} {n a:Nat}:∀ k,a8a (d8 f n k) a=if a < k then(e9 f a n).map (·.2) else []:=by
 intro k
 induction k with
 | zero=>simp[a2p,a8a]
 | succ k ih =>
  rw[a1s,c1c,ih,d0s]
  by_cases h1:a < k
  ·rw[if_pos h1,if_neg (by omega),if_pos (by omega),z1n]
  ·rw[if_neg h1]
   by_cases h2:a=k
   ·rw[if_pos h2,if_pos (by omega)]; rfl
   ·rw[if_neg h2,if_neg (by omega)]; rfl
@[simp] theorem b5t (n:Nat) (f:Pf):(a08 n f).length=n:=i9 _ _
theorem b1v {n a:Nat} {f:Pf} (h:a < n):b7 [] (a08 n f) a=(e9 f a n).map (·.2):=x7 _ _ h
theorem b7d {N:Int} {f:Pf} {j:Nat} (h:j < N.toNat):b7 [] (a0c N.toNat (b9 N f)) j=b7 [] (a08 N.toNat f) j:=by
 rw[a5a h,b1v h,b9,d0q,if_pos h]
theorem c91 {N:Int} {f:Pf} (h:N≤64):(b9 N f).length≤4096:=Nat.le_trans (a32 f _ _) (e1r (by omega))
theorem d0r {P:List Pq} {a:Nat}:(a8a P a).length≤P.length:=by
 rw[a8a,z2k]; exact List.length_filter_le _ _
theorem d4n (N:Int) (l:List Pq):(s4 (d3i [c5x [],b8e [none,none,none,none,some (.mp (f7 l)),some (.ps (b9 N (f7 l)))]] [(0,.of (c64 N (b9 N (f7 l)) 16 3))] 5 (d14 6 3)) Tryz.f150 [rlV N 0 l] [arP l] (a7g (.sl 0 (a08 N.toNat (f7 l)).length) 23 (a08 N.toNat (f7 l)).length (i4 (a08 N.toNat (f7 l)))))=(
 let a:=b9 N (f7 l)
 let b:=((0:Int),(0:Int))
 let c:=a08 N.toNat (f7 l)
 let d:=AV.ps a
 let e:=(0:Int)
 let f:=(↑d.len:Int)
 let g:=N=N∧l.length=l.length
 let h:=PLoop.of (c64 N a (16:Nat) (3:Nat))
 let k:=(1:Nat)
 e≤N∧N=N∧(↑(24:Nat):Int) * N≤(281474976710656:Int)∧N≤(9223372036854775807:Int)∧l.length=l.length∧(mkN (fun(j:Nat)=>((b7 b l j).fst,(b7 b l j).snd)) l.length).length≤(1099511627776:Nat)∧f7 (mkN (fun(j:Nat)=>((b7 b l j).fst,(b7 b l j).snd)) l.length)=f7 l∧(e≤N∧N≤(64:Int))∧b9 N (f7 l)=b9 N (f7 l)∧∃(x:PUnit),(∃(x:Nat),(x≤a.length∧True)∧(e=(↑x:Int)∧True)∧(N.toNat=N.toNat∧(∀(j:Nat),j < N.toNat→(0:Nat)=(b7 [] (a0c N.toNat (List.take x a)) j).length)∧(∀(j:Nat),j < N.toNat→∀(i:Nat),i < (b7 [] (a0c N.toNat (List.take x a)) j).length→e=b7 e (b7 [] (a0c N.toNat (List.take x a)) j) i)∧True)∧True)∧∀(x_1:Nat),x_1≤a.length∧True→(decide ((↑x_1:Int) < f)=true→(e≤(↑x_1:Int)∧(↑x_1:Int) < f)∧x_1 < d.len∧(b7 b a x_1).fst.toNat < N.toNat∧(e≤(b7 b a x_1).fst∧(b7 b a x_1).fst < (↑N.toNat:Int))∧(b7 b a x_1).fst.toNat < N.toNat∧(b7 b a x_1).fst.toNat=(b7 b a x_1).fst.toNat∧(b7 [] (a0c N.toNat (List.take x_1 a)) (b7 b a x_1).fst.toNat).length=(b7 [] (a0c N.toNat (List.take x_1 a)) (b7 b a x_1).fst.toNat).length∧k=k∧((b7 [] (a0c N.toNat (List.take x_1 a)) (b7 b a x_1).fst.toNat).length + k) * (8:Nat)≤(140737488355328:Nat)∧(b7 [] (a0c N.toNat (List.take x_1 a)) (b7 b a x_1).fst.toNat).length + k≤(9223372036854775807:Nat)∧(e≤(b7 b a x_1).fst∧(b7 b a x_1).fst < (↑N.toNat:Int))∧(b7 b a x_1).fst.toNat < N.toNat∧(b7 b a x_1).fst.toNat=(b7 b a x_1).fst.toNat∧(b7 [] (a0c N.toNat (List.take x_1 a)) (b7 b a x_1).fst.toNat).length + k=(b7 [] (a0c N.toNat (List.take x_1 a)) (b7 b a x_1).fst.toNat).length +
 k∧∃(x_2:Nat),(x_2≤a.length∧True)∧(h.ann x).mu x_2 < (h.ann x).mu x_1∧(g∧True∧(0:Nat)=(0:Nat)∧N.toNat=N.toNat∧True∧N=N∧N.toNat=N.toNat∧True∧N=N∧g∧True∧(N=N∧d.len=d.len)∧d.len=d.len∧f=f∧IntKind.i64.wrap ((↑x_1:Int) + (1:Int))=(↑x_2:Int)∧True)∧(l.length=l.length∧(∀(j:Nat),j < l.length→(b7 b l j).fst=(b7 b l j).fst)∧(∀(j:Nat),j < l.length→(b7 b l j).snd=(b7 b l j).snd)∧True)∧g∧((0:Nat)=(0:Nat)∧True∧True)∧(N.toNat=N.toNat∧(∀(j:Nat),j < N.toNat→(bif j.beq (b7 b a x_1).fst.toNat then (b7 [] (a0c N.toNat (List.take x_1 a)) (b7 b a x_1).fst.toNat).length + k else (b7 [] (a0c N.toNat (List.take x_1 a)) j).length)=(b7 [] (a0c N.toNat (List.take x_2 a)) j).length)∧(∀(j:Nat),j < N.toNat→∀(i:Nat),i < (b7 [] (a0c N.toNat (List.take x_2 a)) j).length→(bif j.beq (b7 b a x_1).fst.toNat then fun(j:Nat)=>bif j.blt (b7 [] (a0c N.toNat (List.take x_1 a)) (b7 b a x_1).fst.toNat).length then b7 e (b7 [] (a0c N.toNat (List.take x_1 a)) (b7 b a x_1).fst.toNat) j else g8 [(b7 b a x_1).snd] (j - (b7 [] (a0c N.toNat (List.take x_1 a)) (b7 b a x_1).fst.toNat).length) else fun(i:Nat)=>b7 e (b7 [] (a0c N.toNat (List.take x_1 a)) j) i) i=b7 e (b7 [] (a0c N.toNat (List.take x_2 a)) j) i)∧True)∧(∀(x y:Int),f7 (mkN (fun(j:Nat)=>((b7 b l j).fst,(b7 b l j).snd)) l.length) x y=f7 (mkN (fun(j:Nat)=>((b7 b l j).fst,(b7 b l j).snd)) l.length) x y)∧(d.len=d.len∧(∀(j:Nat),j < d.len→(b7 b a j).fst=(b7 b a j).fst)∧(∀(j:Nat),j < d.len→(b7 b a j).snd=(b7 b a j).snd)∧True)∧True)∧(decide ((↑x_1:Int) <
 f)=false→N.toNat=c.length∧(((∀(j:Nat),j < c.length→(b7 [] (a0c N.toNat (List.take x_1 a)) j).length=(b7 [] c j).length)∧(∀(j:Nat),j < c.length→∀(i:Nat),i < (b7 [] c j).length→b7 e (b7 [] (a0c N.toNat (List.take x_1 a)) j) i=b7 e (b7 [] c j) i)∧True)∧True)∧N.toNat=c.length)):=by kernel_rfl
theorem v150 (N:Int) (l:List Pq) (hv:g7 N l=true) (hl:L9 l):s4 (d3i [c5x [],b8e [none,none,none,none,some (.mp (f7 l)),some (.ps (b9 N (f7 l)))]] [(0,.of (c64 N (b9 N (f7 l)) 16 3))] 5 (d14 6 3)) Tryz.f150 [rlV N 0 l] [arP l] (a7g (.sl 0 (a08 N.toNat (f7 l)).length) 23 (a08 N.toNat (f7 l)).length (i4 (a08 N.toNat (f7 l)))):=by
 rw[d4n]
 obtain⟨h1,h2,h3⟩:=a0f.1 hv
 have hlen:=c91 (f:=f7 l) h2
 simp only[eq_self,true_and,and_true,z0o,imp_self,o6,o8,i7,i9,PLoop.of,s8,c64,AV.len]
 refine⟨by omega,by omega,by omega,hl,⟨by omega,by omega⟩,(),⟨0,by simp,rfl,fun j hj=>?_,fun j hj i hi=>?_⟩,fun i hi=>⟨fun hlt=>?_,fun hlt=>?_⟩⟩
 ·rw[List.take_zero,a5a hj]; rfl
 ·rw[List.take_zero,a5a hj] at hi; simp[a8a] at hi
 ·have hi2:=b1m hlt
  have hm:=b37 hi2
  generalize hp:b7 (0,0) (b9 N (f7 l)) i=p at hm ⊢
  obtain⟨x,y,hx,hy,hxy,rfl⟩:=c0d.1 hm
  simp only[z0s]
  have key:∀ j,j < N.toNat→b7 [] (a0c N.toNat (List.take (i + 1) (b9 N (f7 l)))) j=b7 [] (a0c N.toNat (List.take i (b9 N (f7 l)))) j ++ (if x=j then [(y:Int)] else []):=fun j hj=>by
   rw[a5a hj,a5a hj,c78 hi2,hp]
   congr 1
   by_cases e:x=j
   ·subst e; simp
   ·rw[if_neg e,if_neg (by simp only; omega)]
  have hr:(b7 [] (a0c N.toNat (List.take i (b9 N (f7 l)))) x).length≤4096:=by
   rw[a5a hx]
   exact Nat.le_trans d0r (Nat.le_trans (by simp; omega) hlen)
  refine⟨bd hi2,hi2,hx,by omega,hx,by omega,by omega,by omega,hx,i + 1,by omega,by omega,wrS (n:=4096) (by omega) (by omega),fun j hj=>?_,fun j hj k hk=>?_⟩
  ·rw[key j hj]
   by_cases e:j=x
   ·subst e; rw[d53,z0f,if_pos rfl]; simp
   ·rw[d52 e,z0l,if_neg (by omega),z1n]
  ·rw[key j hj] at hk ⊢
   by_cases e:j=x
   ·subst e
    rw[d53,z0f]
    rw[if_pos rfl] at hk ⊢
    by_cases hk2:k < (b7 [] (a0c N.toNat (List.take i (b9 N (f7 l)))) j).length
    ·rw[c7s hk2,z0f,a73 _ hk2]
    ·have e3:k=(b7 [] (a0c N.toNat (List.take i (b9 N (f7 l)))) j).length:=by simp at hk; omega
     rw[c7r hk2,z0l,e3,b0o,Nat.sub_self]
     rfl
   ·rw[d52 e,z0l,if_neg (by omega),z1n]
 ·have hi2:=b1c hlt hi
  rw[hi2,z3u,b5t]
  refine⟨rfl,⟨fun j hj=>?_,fun j hj k hk=>?_⟩,rfl⟩
  ·rw[b7d hj]
  ·rw[b7d hj]
theorem e18:s5 Tryz.prog 150:=⟨Tryz.f150,Tryz.func150,by kernel_rfl,by kernel_rfl⟩
def d86:List AV→Tab
 | [.r N l]=>d3i [c5x [],b8e [none,none,none,none,some (.mp (f7 l)),some (.ps (b9 N (f7 l)))]] [(0,.of (c64 N (b9 N (f7 l)) 16 3))] 5 (d14 6 3)
 | _=>tab [] []
theorem c150:CallOk Tryz.prog [] 150 (a29 EL [] [.r] d0o):=by
 refine okT (fn:=Tryz.f150) Tryz.func150 e18 d86 (fun av=>?_) (fun av=>?_) (fun av pre rv h=>?_) (fun av pre rv h hp=>?_)
 ·unfold d86; split <;> first | exact d8a (b2x (n148 _) (b2x (d6x _) a70)) | exact a4z a70
 ·unfold d86; split <;> exact⟨rfl,rfl⟩
 ·unfold d0o at h; split at h <;> cases h
  exact⟨rfl,fun t a e=>by cases e <;> exact z0h _ _⟩
 ·unfold d0o at h; split at h <;> cases h
  exact v150 _ _ (hp _ (.head _)) (hp _ (.tail _ (.head _)))
theorem n150 (nm:List (Option AV)):CallOk Tryz.prog [] 150 (a29 EL nm [.r] d0o):=a90 c150
inductive Tr (f:Pf):Int→Int→Prop
 | one {a b:Int}:f a b=true→Tr f a b
 | tail {a b c:Int}:Tr f a b→f b c=true→Tr f a c
theorem Tr.trans {f:Pf} {a b c:Int} (h:Tr f a b) (h':Tr f b c):Tr f a c:=by
 induction h' with
 | one e=>exact .tail h e
 | tail _ e ih=>exact .tail ih e
def Sup (n:Nat) (f:Pf):Prop:=∀ a b,f a b=true→0≤a∧a < (n:Int)∧0≤b∧b < (n:Int)
theorem Tr.sup {n:Nat} {f:Pf} (hs:Sup n f) {a b:Int} (h:Tr f a b):0≤a∧a < (n:Int)∧0≤b∧b < (n:Int):=by
 induction h with
 | one e=>exact hs _ _ e
 | tail _ e ih=>have:=hs _ _ e; omega
def wF (f:Pf):Nat→Pf
 | 0=>f
 | m + 1=>fun a b=>wF f m a b || (wF f m a m && wF f m m b)
theorem c52 {f:Pf} {a b:Int}:∀ {m k:Nat},m≤k→wF f m a b=true→wF f k a b=true:=by
 intro m k h
 induction k with
 | zero =>
      intro e; have:m=0:=by omega
      subst this; exact e
 | succ k ih =>
  intro e
  by_cases hm:m=k + 1
  ·subst hm; exact e
  ·simp only[wF,ih (by omega) e,Bool.true_or]
theorem d1e {f:Pf} {a b:Int}:∀ {m:Nat},wF f m a b=true→Tr f a b:=by
 intro m
 induction m generalizing a b with
 | zero=>exact fun e=>.one e
 | succ m ih =>
  intro e
  simp only[wF,z1u,z0d] at e
  rcases e with e | ⟨e1,e2⟩
  ·exact ih e
  ·exact(ih e1).trans (ih e2)
theorem d4y {f:Pf}:∀ {m k:Nat} {a b:Int},k < m→wF f m a k=true→wF f m k b=true→wF f m a b=true:=by
 intro m
 induction m with
 | zero=>intro k a b h; omega
 | succ m ih =>
  intro k a b hk h1 h2
  simp only[wF,z1u,z0d] at h1 h2 ⊢
  by_cases e:k=m
  ·subst e
   have e1:wF f k a k=true:=by rcases h1 with h | h; exact h; exact h.1
   have e2:wF f k k b=true:=by rcases h2 with h | h; exact h; exact h.2
   exact .inr ⟨e1,e2⟩
  ·have hk2:k < m:=by omega
   rcases h1 with h1 | ⟨h1,h3⟩ <;> rcases h2 with h2 | ⟨h2,h4⟩
   ·exact .inl (ih hk2 h1 h2)
   ·exact .inr ⟨ih hk2 h1 h2,h4⟩
   ·exact .inr ⟨h1,ih hk2 h3 h2⟩
   ·exact .inr ⟨h1,h4⟩
theorem a9w {n:Nat} {f:Pf} (hs:Sup n f) {a b:Int}:wF f n a b=true↔Tr f a b:=by
 refine⟨d1e,fun h=>?_⟩
 induction h with
 | one e=>exact c52 (m:=0) (z2y _) e
 | @tail b c h e ih =>
  have h1:=hs _ _ e
  obtain⟨k,rfl⟩:=z3i h1.1
  exact d4y (k:=k) (by omega) ih (c52 (m:=0) (z2y _) e)
def c6t (s:Pf) (a c:Int):Pf:=fun x y=>(x == a && y == c) || s x y
def dfs (R:List (List Int)) (a:Int):Nat→Int→Pf→Pf
 | 0,_,s=>s
 | F + 1,b,s=>(b7 [] R b.toNat).foldl (fun s c=>bif s a c then s else dfs R a F c (c6t s a c)) s
def a1p (R:List (List Int)) (a:Int) (F:Nat):Pf→Int→Pf:=fun s c=>bif s a c then s else dfs R a F c (c6t s a c)
theorem b9s (R:List (List Int)) (a:Int) (F:Nat) (b:Int) (s:Pf):dfs R a (F + 1) b s=(b7 [] R b.toNat).foldl (a1p R a F) s:=rfl
def unv (n:Nat) (s:Pf) (a:Int):Nat:=((List.range n).filter (fun c:Nat=>!s a c)).length
theorem a6o {s:Pf} {a c x y:Int}:c6t s a c x y=true↔(x=a∧y=c)∨s x y=true:=by
 simp[c6t]
theorem a8y {α:Type} {p q:α→Bool} {l:List α} (h:∀ x∈l,p x=true→q x=true):(l.filter p).length≤(l.filter q).length:=by
 induction l with
 | nil=>simp
 | cons x l ih =>
  have ih:=ih fun y hy=>h y (z0w _ hy)
  have hx:=h x z1f
  simp only[List.filter_cons]
  split <;> split <;> simp <;> first | omega | (rename_i e1 e2; exact absurd (hx e1) e2)
theorem a8z {α:Type} {p q:α→Bool} {l:List α} (h:∀ x∈l,p x=true→q x=true) {y:α} (hy:y∈l) (h1:p y=false) (h2:q y=true):(l.filter p).length < (l.filter q).length:=by
 induction l with
 | nil=>cases hy
 | cons x l ih =>
  have hx:=h x z1f
  have hle:=a8y (l:=l) fun y hy=>h y (z0w _ hy)
  simp only[List.filter_cons]
  rcases z0q.1 hy with rfl | hy
  ·rw[h1,h2]; simp; omega
  ·have ih:=ih (fun y hy=>h y (z0w _ hy)) hy
   split <;> split <;> simp <;> first | omega | (rename_i e1 e2; exact absurd (hx e1) e2)
theorem c1s {n:Nat} {s s':Pf} {a:Int} (h:∀ y,s a y=true→s' a y=true):unv n s' a≤unv n s a:=a8y fun x _ hx=>by
 cases e:s a x
 ·rfl
 ·rw[h _ e] at hx; exact hx
theorem c4y {n:Nat} {s:Pf} {a c:Int} (h0:0≤c) (h1:c < n) (h:s a c=false):unv n (c6t s a c) a < unv n s a:=by
 obtain⟨k,rfl⟩:=z3i h0
 refine a8z (fun x _ hx=>?_) (y:=k) (z2q.2 (by omega)) ?_ ?_
 ·cases e:s a x
  ·rfl
  ·rw[a6o.2 (.inr e)] at hx; exact hx
 ·rw[a6o.2 (.inl ⟨rfl,rfl⟩)]; rfl
 ·rw[h]; rfl
theorem d16 {n:Nat} {s:Pf} {a:Int}:unv n s a≤n:=Nat.le_trans (List.length_filter_le _ _) (by simp)
structure RowsOf (n:Nat) (f:Pf) (R:List (List Int)):Prop where
 sup:Sup n f
 mem:∀ b c,0≤b→b < (n:Int)→(c∈b7 [] R b.toNat↔f b c=true)
structure Wk (f:Pf) (a b:Int) (L:List Int) (s s':Pf):Prop where
 mono:∀ x y,s x y=true→s' x y=true
 only:∀ x y,s' x y=true→s x y=true∨(x=a∧Tr f b y)
 all:∀ c∈L,s' a c=true
 shut:∀ c,s' a c=true→s a c=true∨∀ d,f c d=true→s' a d=true
theorem c54 {n:Nat} {f:Pf} {R:List (List Int)} (hr:RowsOf n f R) {a:Int} {F:Nat} {b:Int} (ih:∀ c s,0≤c→c < (n:Int)→unv n s a < F→Wk f a c (b7 [] R c.toNat) s (dfs R a F c s)):∀(L:List Int) (s:Pf),(∀ c∈L,f b c=true)→unv n s a < F + 1→Wk f a b L s (L.foldl (a1p R a F) s):=by
 intro L
 induction L with
 | nil=>exact fun s _ _=>⟨fun _ _ h=>h,fun _ _ h=>.inl h,fun _ h=>(by cases h),fun _ h=>.inl h⟩
 | cons c L ihL =>
  intro s hL hu
  rw[List.foldl_cons]
  have hc:=hL c z1f
  have hcn:=hr.sup _ _ hc
  have h1:Wk f a b [c] s (a1p R a F s c):=by
   unfold a1p
   cases e:s a c
   ·have hu2:=c4y hcn.2.2.1 hcn.2.2.2 e
    have w:=ih c (c6t s a c) hcn.2.2.1 hcn.2.2.2 (by omega)
    refine⟨fun x y h=>w.mono _ _ (a6o.2 (.inr h)),fun x y h=>?_,fun d hd=>?_,fun d hd=>?_⟩
    ·rcases w.only x y h with h | ⟨rfl,h⟩
     ·rcases a6o.1 h with⟨rfl,rfl⟩ | h
      ·exact .inr ⟨rfl,.one hc⟩
      ·exact .inl h
     ·rename_i h'
      exact .inr ⟨rfl,(Tr.one hc).trans h'⟩
    ·cases hd with
     | head=>exact w.mono _ _ (a6o.2 (.inl ⟨rfl,rfl⟩))
     | tail _ h=>cases h
    ·rcases w.shut d hd with h | h
     ·rcases a6o.1 h with⟨_,rfl⟩ | h
      ·exact .inr fun x hx=>w.all x ((hr.mem d x hcn.2.2.1 hcn.2.2.2).2 hx)
      ·exact .inl h
     ·exact .inr h
   ·exact⟨fun _ _ h=>h,fun _ _ h=>.inl h,fun d hd=>(by
     rw[z0t.1 hd]; exact e),fun _ h=>.inl h⟩
  have hm:=c1s (n:=n) (s:=s) (s':=a1p R a F s c) (a:=a) (h1.mono a)
  have h2:=ihL (a1p R a F s c) (fun d hd=>hL d (z0w _ hd)) (by omega)
  refine⟨fun x y h=>h2.mono _ _ (h1.mono _ _ h),fun x y h=>(h2.only x y h).elim (h1.only x y) .inr,fun d hd=>?_,fun d hd=>?_⟩
  ·rcases z0q.1 hd with rfl | hd
   ·exact h2.mono _ _ (h1.all _ z1f)
   ·exact h2.all d hd
  ·rcases h2.shut d hd with h | h
   ·rcases h1.shut d h with h | h
    ·exact .inl h
    ·exact .inr fun x hx=>h2.mono _ _ (h x hx)
   ·exact .inr h
theorem d1g {n:Nat} {f:Pf} {R:List (List Int)} (hr:RowsOf n f R) {a:Int}:∀(F:Nat) (b:Int) (s:Pf),0≤b→b < (n:Int)→unv n s a < F→Wk f a b (b7 [] R b.toNat) s (dfs R a F b s):=by
 intro F
 induction F with
 | zero=>intro b s _ _ h; omega
 | succ F ih =>
  intro b s h1 h2 h3
  rw[b9s]
  exact c54 hr (fun c s q1 q2 q3=>ih c s q1 q2 q3) _ s (fun c hc=>(hr.mem b c h1 h2).1 hc) h3
def b00 (R:List (List Int)) (n:Nat):Nat→Pf
 | 0=>fun _ _=>false
 | k + 1=>dfs R k (n + 1) k (b00 R n k)
theorem c7y {n:Nat} {f:Pf} {R:List (List Int)} (hr:RowsOf n f R):∀ k,k≤n→∀ x y,b00 R n k x y=true↔0≤x∧x < (k:Int)∧Tr f x y:=by
 intro k
 induction k with
 | zero=>intro _ x y; simp only[b00]; constructor; intro h; cases h; intro h; omega
 | succ k ih =>
  intro hk x y
  have ih:=ih (by omega)
  have w:=d1g hr (a:=(k:Int)) (n + 1) (k:Int) (b00 R n k) (by omega) (by omega) (by have:=d16 (n:=n) (s:=b00 R n k) (a:=(k:Int)); omega)
  simp only[b00]
  constructor
  ·intro h
   rcases w.only x y h with h | ⟨e,h'⟩
   ·have:=(ih x y).1 h
    exact⟨this.1,by omega,this.2.2⟩
   ·rw[e]; exact⟨by omega,by omega,h'⟩
  ·rintro ⟨h1,h2,h3⟩
   by_cases e:x < (k:Int)
   ·exact w.mono _ _ ((ih x y).2 ⟨h1,e,h3⟩)
   ·have e:x=(k:Int):=by omega
    rw[e] at h3 ⊢
    clear h1 h2 e
    induction h3 with
    | one e=>exact w.all _ ((hr.mem _ _ (by omega) (by omega)).2 e)
    | @tail c d h e ih2 =>
     rcases w.shut c ih2 with h4 | h4
     ·have:=(ih _ _).1 h4; omega
     ·exact h4 d e
theorem d1n {n:Nat} {f:Pf} {R:List (List Int)} (hr:RowsOf n f R):b00 R n n=wF f n:=by
 funext x y
 rw[z2j,c7y hr n (z0r n),a9w hr.sup]
 constructor
 ·exact fun h=>h.2.2
 ·exact fun h=>⟨(h.sup hr.sup).1,(h.sup hr.sup).2.1,h⟩
theorem b5j {n:Nat} {f:Pf} (hs:Sup n f):RowsOf n f (a08 n f):=⟨hs,fun b c h0 h1=>by
 obtain⟨k,rfl⟩:=z3i h0
 rw[z0s,b1v (by omega),z2b]
 constructor
 ·rintro ⟨p,hp,rfl⟩
  obtain⟨b,_,h,rfl⟩:=a82.1 hp
  exact h
 ·intro h
  have:=hs _ _ h
  obtain⟨j,rfl⟩:=z3i this.2.2.1
  exact⟨_,a82.2 ⟨j,by omega,h,rfl⟩,rfl⟩⟩
theorem b9f {N:Int} {l:List Pq} (hv:g7 N l=true):Sup N.toNat (f7 l):=fun a b h=>by
 obtain⟨h1,h2,h3⟩:=a0f.1 hv
 have:=h3 _ (a4p.1 h)
 simp only at this
 omega
def a40 (R:List (List Int)) (b:Int):List Int:=b7 [] R b.toNat
def visF:SV:=.fn 151 [.ptr 0 0,.ptr 1 0,.ptr 2 0,.ptr 3 0]
def d9w (R:List (List Int)) (a:Int) (s:Pf):List MBlk:=[.cells [.sl 5 R.length],.cells [.i .i64 a],.cells [.mp 4],.cells [visF],.mapp s,.oarr 23 R.length (i4 R)]
def d9x (b:Int):List SV:=[.i .i64 b,.ptr 0 0,.ptr 1 0,.ptr 2 0,.ptr 3 0]
def c50 (R:List (List Int)) (a:Int) (s:Pf):List (Nat × MBlk):=[(0,.cells [.sl 5 R.length]),(1,.cells [.i .i64 a]),(2,.cells [.mp 4]),(3,.cells [visF]),(4,.mapp s),(5,.oarr 23 R.length (i4 R))]
def b6y (R:List (List Int)) (F:Nat):List MBlk→List SV→Option BRes
 | m,[.i .i64 b,.ptr e1 0,.ptr e2 0,.ptr e3 0,.ptr e4 0]=>match nth m e1,nth m e2,nth m e3,nth m e4 with
  | some (.cells [.sl r n]),some (.cells [.i .i64 a]),some (.cells [.mp q]),some (.cells [.fn 151 [.ptr p1 0,.ptr p2 0,.ptr p3 0,.ptr p4 0]])=>match nth m r,nth m q with
   | some (.oarr 23 n' [.rows len [g]]),some (.mapp s) =>
    bif Nat.beq p1 e1 && Nat.beq p2 e2 && Nat.beq p3 e3 && Nat.beq p4 e4 && a84 [e1,e2,e3,e4,q,r] then
     some (tB [e1,e2,e3,e4,q,r] [] (c50 R a (dfs R a F b s)) (.tup []) [n=R.length,n'=R.length,len=(fun j=>(b7 [] R j).length),g=(fun j i=>b7 0 (b7 [] R j) i),0≤b∧b < (R.length:Int),unv R.length s a < F])
    else none
   | _,_=>none
  | _,_,_,_=>none
 | _,_=>none
def kVis (R:List (List Int)) (F:Nat):Nat × (List MBlk→List SV→Option BRes):=(151,b6y R F)
def c08 (R:List (List Int)) (F:Nat) (a b:Int) (s:Pf):LAnn:=s8 (a40 R b).length 14 (fun _=>True) (fun i=>[(4,.mapp (((a40 R b).take i).foldl (a1p R a F) s))]) []
def c4z (R:List (List Int)) (a:Int) (s:Pf):SV→List MBlk→Prop:=fun sv m'=>veq (.tup []) sv∧a72 (a8x (c50 R a s) 0 6) m'
def d3j (R:List (List Int)) (F:Nat) (loops:List (Nat × PLoop)) (pins:List (Nat × (Option Addr × Nat))):Tab:=⟨a8e,[],[],loops,[kVis R F],pins,[],[],[],none,false⟩
theorem c2g {n:Nat} {f:Pf} {R:List (List Int)} (hr:RowsOf n f R) {a:Int} {F:Nat} {b:Int} {L:List Int} {s:Pf} (hL:∀ c∈L,f b c=true) (hu:unv n s a < F + 1):unv n (L.foldl (a1p R a F) s) a≤unv n s a:=
 c1s ((c54 hr (fun c s q1 q2 q3=>d1g hr F c s q1 q2 q3) L s hL hu).mono a)
theorem d4o (R:List (List Int)) (F:Nat) (a b:Int) (s:Pf) (x:Nat→Option Addr × Nat):(s4 (d3j R F [(0,.of (c08 R F a b s))] (a68 x [] 6)) Tryz.f151 (d9x b) (d9w R a s) (c4z R a (dfs R a (F + 1) b s)))=(
 let c:=b7 [] R b.toNat
 let d:=(0:Int)
 let e:=(↑c.length:Int)
 let f:=a40 R b
 let g:=a1p R a F
 let h:=PLoop.of (c08 R F a b s)
 let k:=True∧True∧True∧True
 (d≤b∧b < (↑R.length:Int))∧b.toNat < R.length∧∃(x:PUnit),(∃(x:Nat),(x≤f.length∧True)∧(d=(↑x:Int)∧True)∧(∀(x_1 y:Int),s x_1 y=List.foldl g s (List.take x f) x_1 y)∧True)∧∀(x_1:Nat),x_1≤f.length∧True→(decide ((↑x_1:Int) < e)=true→(d≤(↑x_1:Int)∧(↑x_1:Int) < e)∧x_1 < c.length∧((!List.foldl g s (List.take x_1 f) a (b7 d c x_1))=true→R.length=R.length∧R.length=R.length∧((fun(j:Nat)=>(b7 [] R j).length)=fun(j:Nat)=>(b7 [] R j).length)∧((fun(j i:Nat)=>b7 d (b7 [] R j) i)=fun(j i:Nat)=>b7 d (b7 [] R j) i)∧(d≤b7 d c x_1∧b7 d c x_1 < (↑R.length:Int))∧unv R.length (fun(a_4 b_1:Int)=>a_4 ==a && b_1 ==b7 d c x_1 || List.foldl g s (List.take x_1 f) a_4 b_1) a < F∧∃(x_2:Nat),(x_2≤f.length∧True)∧(h.ann x).mu x_2 < (h.ann x).mu x_1∧(b=b∧True∧True∧True∧True∧R.length=R.length∧b=b∧b.toNat=b.toNat∧c.length=c.length∧e=e∧IntKind.i64.wrap ((↑x_1:Int) + (1:Int))=(↑x_2:Int)∧True)∧R.length=R.length∧a=a∧True∧k∧(∀(x y:Int),dfs R a F (b7 d c x_1) (fun(a_4 b_1:Int)=>a_4 ==a && b_1 ==b7 d c x_1 || List.foldl g s (List.take x_1 f) a_4 b_1) x y=List.foldl g s (List.take x_2 f) x y)∧(R.length=R.length∧((∀(j:Nat),j < R.length→(b7 [] R j).length=(b7 [] R j).length)∧(∀(j:Nat),j < R.length→∀(i:Nat),i < (b7 [] R j).length→b7 d (b7 [] R j) i=b7 d (b7 [] R j) i)∧True)∧True)∧(c.length=c.length∧(∀(j:Nat),j < c.length→b7 d c j=b7 d c j)∧True)∧True)∧((!List.foldl g s (List.take x_1 f) a (b7 d c x_1))=false→∃(x_2:Nat),(x_2≤f.length∧True)∧(h.ann x).mu x_2 < (h.ann x).mu
 x_1∧(b=b∧True∧True∧True∧True∧R.length=R.length∧b=b∧b.toNat=b.toNat∧c.length=c.length∧e=e∧IntKind.i64.wrap ((↑x_1:Int) + (1:Int))=(↑x_2:Int)∧True)∧R.length=R.length∧a=a∧True∧k∧(∀(x y:Int),List.foldl g s (List.take x_1 f) x y=List.foldl g s (List.take x_2 f) x y)∧(R.length=R.length∧((∀(j:Nat),j < R.length→(b7 [] R j).length=(b7 [] R j).length)∧(∀(j:Nat),j < R.length→∀(i:Nat),i < (b7 [] R j).length→b7 d (b7 [] R j) i=b7 d (b7 [] R j) i)∧True)∧True)∧(c.length=c.length∧(∀(j:Nat),j < c.length→b7 d c j=b7 d c j)∧True)∧True))∧(decide ((↑x_1:Int) < e)=false→True∧R.length=R.length∧a=a∧True∧k∧(∀(x y:Int),List.foldl g s (List.take x_1 f) x y=dfs R a (F + (1:Nat)) b s x y)∧(R.length=R.length∧((∀(j:Nat),j < R.length→(b7 [] R j).length=(b7 [] R j).length)∧(∀(j:Nat),j < R.length→∀(i:Nat),i < (b7 [] R j).length→b7 d (b7 [] R j) i=b7 d (b7 [] R j) i)∧True)∧True)∧True)):=by kernel_rfl
theorem v151 (R:List (List Int)) (F:Nat) (a b:Int) (s:Pf) (x:Nat→Option Addr × Nat) {f:Pf} (hr:RowsOf R.length f R) (hl:∀ j,(b7 [] R j).length≤64) (hb:0≤b∧b < (R.length:Int)) (hu:unv R.length s a < F + 1):s4 (d3j R F [(0,.of (c08 R F a b s))] (a68 x [] 6)) Tryz.f151 (d9x b) (d9w R a s) (c4z R a (dfs R a (F + 1) b s)):=by
 rw[d4o]
 simp only[eq_self,true_and,and_true,z0o,imp_self,o6,o8,i7,i9,PLoop.of,s8,c08,AV.len]
 refine⟨hb,by omega,(),⟨0,by simp,rfl,fun x y=>by simp⟩,fun i hi=>⟨fun hlt=>?_,fun hlt x y=>?_⟩⟩
 ·have hi2:i < (b7 [] R b.toNat).length:=b1m hlt
  have hlb:=hl b.toNat
  have hmem:b7 0 (b7 [] R b.toNat) i∈b7 [] R b.toNat:=by rw[m7 _ _ _ hi2]; exact z1v hi2
  have hf:=(hr.mem b _ hb.1 hb.2).1 hmem
  have hc:=hr.sup _ _ hf
  have hmo:=c2g hr (L:=List.take i (a40 R b)) (s:=s) (a:=a) (F:=F) (b:=b) (fun c hc=>(hr.mem b c hb.1 hb.2).1 (List.mem_of_mem_take hc)) hu
  have ht:List.take (i + 1) (a40 R b)=List.take i (a40 R b) ++ [b7 0 (b7 [] R b.toNat) i]:=a7a 0 hi2
  refine⟨bd hi2,hi2,fun hn=>⟨⟨hc.2.2.1,hc.2.2.2⟩,?_,i + 1,?_,?_,wrS (n:=64) (by omega) (by omega),fun x y=>?_⟩,fun hn=>⟨i + 1,?_,?_,wrS (n:=64) (by omega) (by omega),fun x y=>?_⟩⟩
  ·have hn2:List.foldl (a1p R a F) s (List.take i (a40 R b)) a (b7 0 (b7 [] R b.toNat) i)=false:=by simpa using hn
   have:=c4y (n:=R.length) hc.2.2.1 hc.2.2.2 hn2
   have h3:unv R.length (fun a_4 b_1=>a_4 == a && b_1 == b7 0 (b7 [] R b.toNat) i || List.foldl (a1p R a F) s (List.take i (a40 R b)) a_4 b_1) a < unv R.length (List.foldl (a1p R a F) s (List.take i (a40 R b))) a:=this
   omega
  ·exact hi2
  ·have:i < (a40 R b).length:=hi2
   omega
  ·have hn2:List.foldl (a1p R a F) s (List.take i (a40 R b)) a (b7 0 (b7 [] R b.toNat) i)=false:=by simpa using hn
   rw[ht,List.foldl_append]
   show _=a1p R a F (List.foldl (a1p R a F) s (List.take i (a40 R b))) (b7 0 (b7 [] R b.toNat) i) x y
   rw[a1p,hn2]
   rfl
  ·exact hi2
  ·have:i < (a40 R b).length:=hi2
   omega
  ·have hn2:List.foldl (a1p R a F) s (List.take i (a40 R b)) a (b7 0 (b7 [] R b.toNat) i)=true:=by simpa using hn
   rw[ht,List.foldl_append]
   show _=a1p R a F (List.foldl (a1p R a F) s (List.take i (a40 R b))) (b7 0 (b7 [] R b.toNat) i) x y
   rw[a1p,hn2]
   rfl
 ·have hi2:i=(a40 R b).length:=b1c hlt hi
  rw[hi2,z3u,b9s]
  rfl
theorem d55:s5 Tryz.prog 151:=⟨Tryz.f151,Tryz.func151,by kernel_rfl,by kernel_rfl⟩
theorem d8b {R:List (List Int)} {F:Nat} {loops:List (Nat × PLoop)} {pins:List (Nat × (Option Addr × Nat))} (h:CallOkB Tryz.prog [] 151 (b6y R F)):TabOk Tryz.prog (d3j R F loops pins):=⟨mixed,tys,ints,fun _ _ hf=>(by cases hf),fun g G hf=>(by
 have h2:=a09 hf
 rcases z0t.1 h2 with h3
 cases h3
 exact h),fun _ _ hf=>(by cases hf),fun _ hf=>by cases hf⟩
theorem c51 {R:List (List Int)} {F:Nat} {m:List MBlk} {vs:List SV} {b:BRes} (h:b6y R F m vs=some b):∃(y:Int) (e1 e2 e3 e4 r q n n':Nat) (a:Int) (len:Nat→Nat) (g:Nat→Nat→Int) (s:Pf),
  vs=[.i .i64 y,.ptr e1 0,.ptr e2 0,.ptr e3 0,.ptr e4 0]∧nth m e1=some (.cells [.sl r n])∧nth m e2=some (.cells [.i .i64 a])∧nth m e3=some (.cells [.mp q])∧nth m e4=some (.cells [.fn 151 [.ptr e1 0,.ptr e2 0,.ptr e3 0,.ptr e4 0]]) ∧
  nth m r=some (.oarr 23 n' [.rows len [g]])∧nth m q=some (.mapp s)∧a84 [e1,e2,e3,e4,q,r]=true ∧
  b=tB [e1,e2,e3,e4,q,r] [] (c50 R a (dfs R a F y s)) (.tup []) [n=R.length,n'=R.length,len=(fun j=>(b7 [] R j).length),g=(fun j i=>b7 0 (b7 [] R j) i),0≤y∧y < (R.length:Int),unv R.length s a < F]:=by
 unfold b6y at h
 repeat' (split at h)
 all_goals first | cases h | skip
 rename_i _ _ y e1 e2 e3 e4 _ _ _ _ r n a q p1 p2 p3 p4 h1 h2 h3 h4 _ _ n' len g s h5 h6
 cases hc:(p1.beq e1 && p2.beq e2 && p3.beq e3 && p4.beq e4 && a84 [e1,e2,e3,e4,q,r]) <;> rw[hc] at h
 ·cases h
 ·simp only[z0d] at hc
  obtain⟨⟨⟨⟨q1,q2⟩,q3⟩,q4⟩,q5⟩:=hc
  have q1:=z0b q1
  have q2:=z0b q2
  have q3:=z0b q3
  have q4:=z0b q4
  subst q1; subst q2; subst q3; subst q4
  simp only[z0f,z0a] at h
  exact⟨_,_,_,_,_,_,_,_,_,_,_,_,_,rfl,h1,h2,h3,h4,h5,h6,q5,h.symm⟩
theorem b151 {R:List (List Int)} {f:Pf} (hr:RowsOf R.length f R) (hl:∀ j,(b7 [] R j).length≤64):∀ F,CallOkB Tryz.prog [] 151 (b6y R F):=by
 intro F
 induction F with
 | zero =>
  refine c42 Tryz.func151 d55 fun m vs b h hp=>?_
  obtain⟨y,e1,e2,e3,e4,r,q,n,n',a,len,g,s,rfl,h1,h2,h3,h4,h5,h6,h7,rfl⟩:=c51 h
  have:=hp (unv R.length s a < 0) (by simp[tB])
  omega
 | succ F ih =>
  refine c42 Tryz.func151 d55 fun m vs b h hp=>?_
  obtain⟨y,e1,e2,e3,e4,r,q,n,n',a,len,g,s,rfl,h1,h2,h3,h4,h5,h6,h7,rfl⟩:=c51 h
  have p1:=hp (n=R.length) (by simp[tB])
  have p2:=hp (n'=R.length) (by simp[tB])
  have p3:=hp (len=_) (.tail _ (.tail _ (.head _)))
  have p4:=hp (g=_) (.tail _ (.tail _ (.tail _ (.head _))))
  have p5:=hp (0≤y∧y < (R.length:Int)) (by simp[tB])
  have p6:=hp (unv R.length s a < F + 1) (by simp[tB])
  subst p1; subst p2; subst p3; subst p4
  refine⟨d3j R F [(0,.of (c08 R F a y s))] [],[e1,e2,e3,e4,q,r],d9w R a s,d9x y,[],c50 R a (dfs R a (F + 1) y s),.tup [],_,fun pins=>d8b ih,rfl,rfl,h7,rfl,rfl,fun i k0 hk=>?_,rfl,fun x=>v151 R F a y s x hr hl p5 p6⟩
  rw[v7] at h1 h2 h3 h4 h5 h6
  match i with
  | 0=>cases hk; exact h1
  | 1=>cases hk; exact h2
  | 2=>cases hk; exact h3
  | 3=>cases hk; exact h4
  | 4=>cases hk; exact h6
  | 5=>cases hk; exact h5
  | _ + 6=>cases hk
def c8j (R:List (List Int)) (N:Int) (t e:Nat):LAnn:=s8 N.toNat t (fun _=>True) (fun k=>[(e,.mapp (b00 R N.toNat k))]) []
def d87 (calls:a2o) (R:List (List Int)) (F:Nat) (loops:List (Nat × PLoop)):Tab:=⟨a8e,[],calls,loops,[kVis R F],[],[],[],[],none,false⟩
def d0d:Sp:=fun | [.r N l]=>some ([g7 N l=true,L9 l],.mp (wF (f7 l) N.toNat)) | _=>none
def c5u (nm:List (Option AV)):Nat × (List MBlk→List SV→Option AR):=(120,a29 EL nm [.r] d0d)
theorem d2u {n:Nat} {f:Pf} (h:n≤64) (j:Nat):(b7 [] (a08 n f) j).length≤64:=by
 by_cases hj:j < n
 ·rw[b1v hj,z2k]; exact Nat.le_trans (b0w f j n) h
 ·rw[nthD_out _ _ _ (by simp; omega)]; simp
theorem d88 {calls:a2o} {R:List (List Int)} {F:Nat} {loops:List (Nat × PLoop)} (h:∀ p∈calls,CallOk Tryz.prog [] p.1 p.2) (hb:CallOkB Tryz.prog [] 151 (b6y R F)):TabOk Tryz.prog (d87 calls R F loops):=⟨mixed,tys,ints,fun _ _ hf=>h _ (a09 hf),fun g G hf=>(by
 have h2:=a09 hf
 rcases z0t.1 h2 with h3
 cases h3
 exact hb),fun _ _ hf=>(by cases hf),fun _ hf=>by cases hf⟩
theorem d43 (N:Int) (l:List Pq):(s4 (d87 [kSuc [none,none,some (.rs (a08 N.toNat (f7 l)))]] (a08 N.toNat (f7 l)) (N.toNat + 1) [(0,.of (c8j (a08 N.toNat (f7 l)) N 12 4))]) Tryz.f120 [rlV N 0 l] [arP l] (a87 (wF (f7 l) N.toNat)))=(
 let a:=a08 N.toNat (f7 l)
 let b:=((0:Int),(0:Int))
 let c:=AV.rs a
 let d:=N=N∧l.length=l.length
 let e:=PLoop.of (c8j a N (12:Nat) (4:Nat))
 let f:=(0:Int)
 l.length=l.length∧g7 N (mkN (fun(j:Nat)=>((b7 b l j).fst,(b7 b l j).snd)) l.length)=true∧(mkN (fun(j:Nat)=>((b7 b l j).fst,(b7 b l j).snd)) l.length).length≤(1099511627776:Nat)∧a08 N.toNat (f7 (mkN (fun(j:Nat)=>((b7 b l j).fst,(b7 b l j).snd)) l.length))=a08 N.toNat (f7 l)∧∃(x:PUnit),(∃(x:Nat),(x≤N.toNat∧True)∧(f=(↑x:Int)∧True)∧(∀(x_1 y:Int),false=b00 a N.toNat x x_1 y)∧True)∧∀(x_1:Nat),x_1≤N.toNat∧True→(decide ((↑x_1:Int) < N)=true→c.len=a.length∧c.len=a.length∧((fun(j:Nat)=>(b7 [] a j).length)=fun(j:Nat)=>(b7 [] a j).length)∧((fun(j i:Nat)=>b7 f (b7 [] a j) i)=fun(j i:Nat)=>b7 f (b7 [] a j) i)∧(f≤(↑x_1:Int)∧(↑x_1:Int) < (↑a.length:Int))∧unv a.length (b00 a N.toNat x_1) (↑x_1:Int) < N.toNat + (1:Nat)∧∃(x_2:Nat),(x_2≤N.toNat∧True)∧(e.ann x).mu x_2 < (e.ann x).mu x_1∧(d∧True∧True∧True∧True∧d∧c.len=c.len∧True∧True∧N=N∧IntKind.i64.wrap ((↑x_1:Int) + (1:Int))=(↑x_2:Int)∧True)∧(l.length=l.length∧(∀(j:Nat),j < l.length→(b7 b l j).fst=(b7 b l j).fst)∧(∀(j:Nat),j < l.length→(b7 b l j).snd=(b7 b l j).snd)∧True)∧d∧(a.length=c.len∧((∀(j:Nat),j < c.len→(b7 [] a j).length=(b7 [] a j).length)∧(∀(j:Nat),j < c.len→∀(i:Nat),i < (b7 [] a j).length→b7 f (b7 [] a j) i=b7 f (b7 [] a j) i)∧True)∧True)∧a.length=c.len∧(∀(x y:Int),dfs a (↑x_1:Int) (N.toNat + (1:Nat)) (↑x_1:Int) (b00 a N.toNat x_1) x y=b00 a N.toNat x_2 x y)∧True∧True)∧(decide ((↑x_1:Int) < N)=false→∀(x y:Int),b00 a N.toNat x_1 x y=wF (f7 l) N.toNat x y)):=by kernel_rfl
theorem v120 (N:Int) (l:List Pq) (hv:g7 N l=true) (hl:L9 l):s4 (d87 [kSuc [none,none,some (.rs (a08 N.toNat (f7 l)))]] (a08 N.toNat (f7 l)) (N.toNat + 1) [(0,.of (c8j (a08 N.toNat (f7 l)) N 12 4))]) Tryz.f120 [rlV N 0 l] [arP l] (a87 (wF (f7 l) N.toNat)):=by
 rw[d43]
 simp only[eq_self,true_and,and_true,z0o,imp_self,o6,o8,i7,i9,PLoop.of,s8,c8j,AV.len,b5t]
 obtain⟨h1,h2,h3⟩:=a0f.1 hv
 refine⟨hv,hl,(),⟨0,by simp,rfl,fun x y=>rfl⟩,fun k hk=>⟨fun hlt=>?_,fun hlt x y=>?_⟩⟩
 ·have hlt2:=z0e hlt
  refine⟨⟨by omega,by omega⟩,?_,k + 1,by omega,by omega,wrS (n:=64) (by omega) (by omega),fun x y=>rfl⟩
  have:=d16 (n:=N.toNat) (s:=b00 (a08 N.toNat (f7 l)) N.toNat k) (a:=(k:Int))
  omega
 ·have hlt2:=z0i hlt
  have e:k=N.toNat:=by omega
  rw[e,d1n (b5j (b9f hv))]
theorem e0m:s5 Tryz.prog 120:=⟨Tryz.f120,Tryz.func120,by kernel_rfl,by kernel_rfl⟩
theorem c120:CallOk Tryz.prog [] 120 (a29 EL [] [.r] d0d):=by
 refine d56 (fn:=Tryz.f120) Tryz.func120 e0m (fun av pre rv h=>?_) (fun av pre rv h hp=>?_)
 ·unfold d0d at h; split at h <;> cases h
  exact⟨rfl,fun t a e=>by cases e⟩
 ·unfold d0d at h; split at h <;> cases h
  rename_i N l
  have hv:g7 N l=true:=hp _ (.head _)
  obtain⟨h1,h2,h3⟩:=a0f.1 hv
  refine⟨_,d88 (b2x (n150 _) a70) (b151 (f:=f7 l) ?_ (d2u (by omega)) _),rfl,rfl,v120 _ _ hv (hp _ (.tail _ (.head _)))⟩
  rw[b5t]
  exact b5j (b9f hv)
theorem n120 (nm:List (Option AV)):CallOk Tryz.prog [] 120 (a29 EL nm [.r] d0d):=a90 c120
end Go.Proofs.YtaeeaniofljmnaaGreatDoor

/-
  A part of the proof (N4).
-/
import Derived.Test.YtaeeaniofljmnaaGreatDoorN2
namespace Go.Proofs.YtaeeaniofljmnaaGreatDoor
set_option linter.unusedSimpArgs false
set_option linter.unusedVariables false
open Go Go.Proofs.YtaeeaniofljmnaaGreatDoor.Sx
set_option maxRecDepth 100000
theorem okT {fid:FuncId} {fn:Func} {ks:List AK} {S:List AV→Option (List Prop × RV)} (hfn:Tryz.prog.funcs[fid]?=some fn) (hok:o8 Tryz.prog fid) (T:List AV→Tab) (hT:∀ av,TabOk Tryz.prog (T av)) (hg:∀ av,(T av).globals=[]∧(T av).pins=[])
  (hres:∀ av pre rv,S av=some (pre,rv)→rv.ok=true∧(∀ t a,rv=.sl t a→a.cols≠[]))
  (hv:∀ av pre rv,S av=some (pre,rv)→(∀ p∈pre,p)→n9 (T av) fn (a4a 0 av) (z5 av) (rv.post EL)):CallOk Tryz.prog [] fid (a1g EL [] ks S):=
 d2a hfn hok hres fun av pre rv h hp=>⟨_,hT av,(hg av).1,(hg av).2,hv av pre rv h hp⟩
theorem d6v:o8 Tryz.prog 119:=⟨Tryz.f119,Tryz.func119,by kernel_rfl,by kernel_rfl⟩
theorem d6i:o8 Tryz.prog 103:=⟨Tryz.f103,Tryz.func103,by kernel_rfl,by kernel_rfl⟩
theorem d7e:o8 Tryz.prog 148:=⟨Tryz.f148,Tryz.func148,by kernel_rfl,by kernel_rfl⟩
theorem d7d:o8 Tryz.prog 147:=⟨Tryz.f147,Tryz.func147,by kernel_rfl,by kernel_rfl⟩
theorem fo46:o8 Tryz.prog 46:=⟨Tryz.f46,Tryz.func46,by kernel_rfl,by kernel_rfl⟩
theorem d6n:o8 Tryz.prog 109:=⟨Tryz.f109,Tryz.func109,by kernel_rfl,by kernel_rfl⟩
def d4n:List AV→Tab
 | [.r N l]=>tab [] [(0,.of (a7q N l 16))]
 | _=>tab [] []
theorem c119:CallOk Tryz.prog [] 119 (a1g EL [] [.r] b4u):=by
 refine okT (fn:=Tryz.f119) Tryz.func119 d6v d4n (fun av=>?_) (fun av=>?_) (fun av pre rv h=>?_) (fun av pre rv h hp=>?_)
 ·unfold d4n; split <;> first | exact a41 a5z | exact a41 a5z
 ·unfold d4n; split <;> exact⟨rfl,rfl⟩
 ·unfold b4u at h; split at h <;> cases h
  exact⟨rfl,fun t a e=>by cases e <;> exact z0k _ _⟩
 ·unfold b4u at h; split at h <;> cases h
  exact v119 _ _ (hp _ (.head _))
theorem d3o (nm:List (Option AV)):CallOk Tryz.prog [] 119 (a1g EL nm [.r] b4u):=a7x c119
def d4k:List AV→Tab
 | [.r N l]=>tab [] [(0,.of (a7q N l 3))]
 | _=>tab [] []
theorem c103:CallOk Tryz.prog [] 103 (a1g EL [] [.r] b4u):=by
 refine okT (fn:=Tryz.f103) Tryz.func103 d6i d4k (fun av=>?_) (fun av=>?_) (fun av pre rv h=>?_) (fun av pre rv h hp=>?_)
 ·unfold d4k; split <;> first | exact a41 a5z | exact a41 a5z
 ·unfold d4k; split <;> exact⟨rfl,rfl⟩
 ·unfold b4u at h; split at h <;> cases h
  exact⟨rfl,fun t a e=>by cases e <;> exact z0k _ _⟩
 ·unfold b4u at h; split at h <;> cases h
  exact v103 _ _ (hp _ (.head _))
theorem n103 (nm:List (Option AV)):CallOk Tryz.prog [] 103 (a1g EL nm [.r] b4u):=a7x c103
def d4p:List AV→Tab
 | [.r N l]=>tab [] [(0,.of (b35 l 10 2))]
 | _=>tab [] []
theorem c148:CallOk Tryz.prog [] 148 (a1g EL [] [.r] c86):=by
 refine okT (fn:=Tryz.f148) Tryz.func148 d7e d4p (fun av=>?_) (fun av=>?_) (fun av pre rv h=>?_) (fun av pre rv h hp=>?_)
 ·unfold d4p; split <;> first | exact a41 a5z | exact a41 a5z
 ·unfold d4p; split <;> exact⟨rfl,rfl⟩
 ·unfold c86 at h; split at h <;> cases h
  exact⟨rfl,fun t a e=>by cases e <;> exact z0k _ _⟩
 ·unfold c86 at h; split at h <;> cases h
  exact v148 _ _ (hp _ (.head _))
theorem n148 (nm:List (Option AV)):CallOk Tryz.prog [] 148 (a1g EL nm [.r] c86):=a7x c148
def d4o:List AV→Tab
 | [.i n,.mp f]=>d0t [] [(0,.of (b34 n f 11)),(2,a9z n f 15)] 2 [.fresh 2 1 67 2]
 | _=>tab [] []
theorem c147:CallOk Tryz.prog [] 147 (a1g EL [] [.i,.mp] c82):=by
 refine okT (fn:=Tryz.f147) Tryz.func147 d7d d4o (fun av=>?_) (fun av=>?_) (fun av pre rv h=>?_) (fun av pre rv h hp=>?_)
 ·unfold d4o; split <;> first | exact d4t a5z | exact a41 a5z
 ·unfold d4o; split <;> exact⟨rfl,rfl⟩
 ·unfold c82 at h; split at h <;> cases h
  exact⟨rfl,fun t a e=>by cases e <;> exact z0k _ _⟩
 ·unfold c82 at h; split at h <;> cases h
  exact v147 _ _ (hp _ (.head _))
theorem d3q (nm:List (Option AV)):CallOk Tryz.prog [] 147 (a1g EL nm [.i,.mp] c82):=a7x c147
def t46:List AV→Tab
 | [.r N l,.i a,.i b]=>tab [c64 []] [(0,.of (b33 l a b 7))]
 | _=>tab [] []
theorem c46:CallOk Tryz.prog [] 46 (a1g EL [] [.r,.i,.i] c80):=by
 refine okT (fn:=Tryz.f46) Tryz.func46 fo46 t46 (fun av=>?_) (fun av=>?_) (fun av pre rv h=>?_) (fun av pre rv h hp=>?_)
 ·unfold t46; split <;> first | exact a41 (b1j (n103 _) a5z) | exact a41 a5z
 ·unfold t46; split <;> exact⟨rfl,rfl⟩
 ·unfold c80 at h; split at h <;> cases h
  exact⟨rfl,fun t a e=>by cases e <;> exact z0k _ _⟩
 ·unfold c80 at h; split at h <;> cases h
  exact v46 _ _ _ _ (hp _ (.head _))
theorem n46 (nm:List (Option AV)):CallOk Tryz.prog [] 46 (a1g EL nm [.r,.i,.i] c80):=a7x c46
def d4l:List AV→Tab
 | [.r N l]=>tab [b6n [],c3p [],b6m []] []
 | _=>tab [] []
theorem c109:CallOk Tryz.prog [] 109 (a1g EL [] [.r] c81):=by
 refine okT (fn:=Tryz.f109) Tryz.func109 d6n d4l (fun av=>?_) (fun av=>?_) (fun av pre rv h=>?_) (fun av pre rv h hp=>?_)
 ·unfold d4l; split <;> first | exact a41 (b1j (d3o _) (b1j (n148 _) (b1j (d3q _) a5z))) | exact a41 a5z
 ·unfold d4l; split <;> exact⟨rfl,rfl⟩
 ·unfold c81 at h; split at h <;> cases h
  exact⟨rfl,fun t a e=>by cases e <;> exact z0k _ _⟩
 ·unfold c81 at h; split at h <;> cases h
  exact v109 _ _ (hp _ (.head _))
theorem c48 (nm:List (Option AV)):CallOk Tryz.prog [] 109 (a1g EL nm [.r] c81):=a7x c109
def a7b (P:List Pq) (a:Nat):List Int:=(P.filter (fun p=>p.1 == (a:Int))).map (·.2)
def y3 (n:Nat) (P:List Pq):List (List Int):=mkN (a7b P) n
def x8 (n:Nat) (f:Pf):List (List Int):=mkN (fun a=>(f8 f a n).map (·.2)) n
def orw (n:Nat) (R:List (List Int)):MBlk:=.orows 23 3 n none none (fun j=>(b8 [] R j).length) [fun j i=>b8 0 (b8 [] R j) i]
def c3u (N:Int) (P:List Pq) (t e:Nat):LAnn:=s5 P.length t (fun _=>True) (fun i=>[(e,orw N.toNat (y3 N.toNat (P.take i)))]) []
def d0u (calls:a1x) (loops:List (Nat × PLoop)) (id:Nat) (g:List MBlk→List Gh):Tab:=⟨a6h,[],calls,loops,[],[],[(id,fun _ m=>g m)],[],[],none,false⟩
theorem d4u {calls:a1x} {loops:List (Nat × PLoop)} {id:Nat} {g:List MBlk→List Gh} (h:∀ p∈calls,CallOk Tryz.prog [] p.1 p.2):TabOk Tryz.prog (d0u calls loops id g):=⟨mixed,tys,ints,fun _ _ hf=>h _ (w5 hf),fun _ _ hf=>(by cases hf),fun _ _ hf=>(by cases hf),fun _ hf=>by cases hf⟩
def c8o (box out:Nat):List MBlk→List Gh:=fun m=>match nth m box with
 | some (.cells (.i _ a :: _))=>[.take out a.toNat]
 | _=>[]
def c87:Sp:=fun | [.r N l]=>some ([d9 N l=true,L9 l],.sl (fun k=>.sl 0 k) (.rs (x8 N.toNat (e9 l)))) | _=>none
def kSuc (nm:List (Option AV)):Nat × (List MBlk→List SV→Option AR):=(150,a1g EL nm [.r] c87)
theorem a47 {n a:Nat} {P:List Pq} (h:a < n):b8 [] (y3 n P) a=a7b P a:=v9 _ _ h
theorem b9f {P Q:List Pq} {a:Nat}:a7b (P ++ Q) a=a7b P a ++ a7b Q a:=by simp[a7b]
theorem c50 {P:List Pq} {i:Nat} (h:i < P.length) (a:Nat):a7b (P.take (i + 1)) a=a7b (P.take i) a ++ (if (b8 (0,0) P i).1=(a:Int) then [(b8 (0,0) P i).2] else []):=by
 rw[a69 (0,0) h,b9f]
 congr 1
 by_cases e:(b8 (0,0) P i).1=(a:Int) <;> simp[a7b,e]
theorem c8b {f:Pf} {a b k:Nat}:a7b (f8 f b k) a=if a=b then(f8 f a k).map (·.2) else []:=by
 by_cases e:a=b
 ·subst e
  rw[if_pos rfl,a7b,List.filter_eq_self.2]
  intro p hp
  obtain⟨_,_,_,rfl⟩:=a73.1 hp
  simp
 ·rw[if_neg e,a7b,List.filter_eq_nil_iff.2]
  ·rfl
  ·intro p hp
   obtain⟨_,_,_,rfl⟩:=a73.1 hp
   simp only[beq_iff_eq]
   omega
theorem c89 {f:Pf} {n a:Nat}:∀ k,a7b (d5 f n k) a=if a < k then(f8 f a n).map (·.2) else []:=by
 intro k
 induction k with
 | zero=>simp[a2n,a7b]
 | succ k ih =>
  rw[a1k,b9f,ih,c8b]
  by_cases h1:a < k
  ·rw[if_pos h1,if_neg (by omega),if_pos (by omega),z1f]
  ·rw[if_neg h1]
   by_cases h2:a=k
   ·rw[if_pos h2,if_pos (by omega)]; rfl
   ·rw[if_neg h2,if_neg (by omega)]; rfl
@[simp] theorem b44 (n:Nat) (f:Pf):(x8 n f).length=n:=i9 _ _
theorem b0f {n a:Nat} {f:Pf} (h:a < n):b8 [] (x8 n f) a=(f8 f a n).map (·.2):=v9 _ _ h
theorem b5s {N:Int} {f:Pf} {j:Nat} (h:j < N.toNat):b8 [] (y3 N.toNat (b9 N f)) j=b8 [] (x8 N.toNat f) j:=by
 rw[a47 h,b0f h,b9,c89,if_pos h]
theorem c6q {N:Int} {f:Pf} (h:N≤64):(b9 N f).length≤4096:=Nat.le_trans (a2z f _ _) (d7w (by omega))
theorem c8a {P:List Pq} {a:Nat}:(a7b P a).length≤P.length:=by
 rw[a7b,List.length_map]; exact List.length_filter_le _ _
theorem d1u (N:Int) (l:List Pq):(n9 (d0u [c3p [],b6m [none,none,none,none,some (.mp (e9 l)),some (.ps (b9 N (e9 l)))]] [(0,.of (c3u N (b9 N (e9 l)) 16 3))] 5 (c8o 6 3)) Tryz.f150 [rlV N 0 l] [arP l] (a6f (.sl 0 (x8 N.toNat (e9 l)).length) 23 (x8 N.toNat (e9 l)).length (l4 (x8 N.toNat (e9 l)))))=(
 let a:=b9 N (e9 l)
 let b:=((0:Int),(0:Int))
 let c:=x8 N.toNat (e9 l)
 let d:=AV.ps a
 let e:=(0:Int)
 let f:=(↑d.len:Int)
 let g:=N=N∧l.length=l.length
 let h:=PLoop.of (c3u N a (16:Nat) (3:Nat))
 let k:=(1:Nat)
 e≤N∧N=N∧(↑(24:Nat):Int) * N≤(281474976710656:Int)∧N≤(9223372036854775807:Int)∧l.length=l.length∧(mkN (fun(j:Nat)=>((b8 b l j).fst,(b8 b l j).snd)) l.length).length≤(1099511627776:Nat)∧e9 (mkN (fun(j:Nat)=>((b8 b l j).fst,(b8 b l j).snd)) l.length)=e9 l∧(e≤N∧N≤(64:Int))∧b9 N (e9 l)=b9 N (e9 l)∧∃(x:PUnit),(∃(x:Nat),(x≤a.length∧True)∧(e=(↑x:Int)∧True)∧(N.toNat=N.toNat∧(∀(j:Nat),j < N.toNat→(0:Nat)=(b8 [] (y3 N.toNat (List.take x a)) j).length)∧(∀(j:Nat),j < N.toNat→∀(i:Nat),i < (b8 [] (y3 N.toNat (List.take x a)) j).length→e=b8 e (b8 [] (y3 N.toNat (List.take x a)) j) i)∧True)∧True)∧∀(x_1:Nat),x_1≤a.length∧True→(decide ((↑x_1:Int) < f)=true→(e≤(↑x_1:Int)∧(↑x_1:Int) < f)∧x_1 < d.len∧(b8 b a x_1).fst.toNat < N.toNat∧(e≤(b8 b a x_1).fst∧(b8 b a x_1).fst < (↑N.toNat:Int))∧(b8 b a x_1).fst.toNat < N.toNat∧(b8 b a x_1).fst.toNat=(b8 b a x_1).fst.toNat∧(b8 [] (y3 N.toNat (List.take x_1 a)) (b8 b a x_1).fst.toNat).length=(b8 [] (y3 N.toNat (List.take x_1 a)) (b8 b a x_1).fst.toNat).length∧k=k∧((b8 [] (y3 N.toNat (List.take x_1 a)) (b8 b a x_1).fst.toNat).length + k) * (8:Nat)≤(140737488355328:Nat)∧(b8 [] (y3 N.toNat (List.take x_1 a)) (b8 b a x_1).fst.toNat).length + k≤(9223372036854775807:Nat)∧(e≤(b8 b a x_1).fst∧(b8 b a x_1).fst < (↑N.toNat:Int))∧(b8 b a x_1).fst.toNat < N.toNat∧(b8 b a x_1).fst.toNat=(b8 b a x_1).fst.toNat∧(b8 [] (y3 N.toNat (List.take x_1 a)) (b8 b a x_1).fst.toNat).length + k=(b8 [] (y3 N.toNat (List.take x_1 a)) (b8 b a x_1).fst.toNat).length +
 k∧∃(x_2:Nat),(x_2≤a.length∧True)∧(h.ann x).mu x_2 < (h.ann x).mu x_1∧(g∧True∧(0:Nat)=(0:Nat)∧N.toNat=N.toNat∧True∧N=N∧N.toNat=N.toNat∧True∧N=N∧g∧True∧(N=N∧d.len=d.len)∧d.len=d.len∧f=f∧IntKind.i64.wrap ((↑x_1:Int) + (1:Int))=(↑x_2:Int)∧True)∧(l.length=l.length∧(∀(j:Nat),j < l.length→(b8 b l j).fst=(b8 b l j).fst)∧(∀(j:Nat),j < l.length→(b8 b l j).snd=(b8 b l j).snd)∧True)∧g∧((0:Nat)=(0:Nat)∧True∧True)∧(N.toNat=N.toNat∧(∀(j:Nat),j < N.toNat→(bif j.beq (b8 b a x_1).fst.toNat then (b8 [] (y3 N.toNat (List.take x_1 a)) (b8 b a x_1).fst.toNat).length + k else (b8 [] (y3 N.toNat (List.take x_1 a)) j).length)=(b8 [] (y3 N.toNat (List.take x_2 a)) j).length)∧(∀(j:Nat),j < N.toNat→∀(i:Nat),i < (b8 [] (y3 N.toNat (List.take x_2 a)) j).length→(bif j.beq (b8 b a x_1).fst.toNat then fun(j:Nat)=>bif j.blt (b8 [] (y3 N.toNat (List.take x_1 a)) (b8 b a x_1).fst.toNat).length then b8 e (b8 [] (y3 N.toNat (List.take x_1 a)) (b8 b a x_1).fst.toNat) j else e8 [(b8 b a x_1).snd] (j - (b8 [] (y3 N.toNat (List.take x_1 a)) (b8 b a x_1).fst.toNat).length) else fun(i:Nat)=>b8 e (b8 [] (y3 N.toNat (List.take x_1 a)) j) i) i=b8 e (b8 [] (y3 N.toNat (List.take x_2 a)) j) i)∧True)∧(∀(x y:Int),e9 (mkN (fun(j:Nat)=>((b8 b l j).fst,(b8 b l j).snd)) l.length) x y=e9 (mkN (fun(j:Nat)=>((b8 b l j).fst,(b8 b l j).snd)) l.length) x y)∧(d.len=d.len∧(∀(j:Nat),j < d.len→(b8 b a j).fst=(b8 b a j).fst)∧(∀(j:Nat),j < d.len→(b8 b a j).snd=(b8 b a j).snd)∧True)∧True)∧(decide ((↑x_1:Int) <
 f)=false→N.toNat=c.length∧(((∀(j:Nat),j < c.length→(b8 [] (y3 N.toNat (List.take x_1 a)) j).length=(b8 [] c j).length)∧(∀(j:Nat),j < c.length→∀(i:Nat),i < (b8 [] c j).length→b8 e (b8 [] (y3 N.toNat (List.take x_1 a)) j) i=b8 e (b8 [] c j) i)∧True)∧True)∧N.toNat=c.length)):=by kernel_rfl
theorem v150 (N:Int) (l:List Pq) (hv:d9 N l=true) (hl:L9 l):n9 (d0u [c3p [],b6m [none,none,none,none,some (.mp (e9 l)),some (.ps (b9 N (e9 l)))]] [(0,.of (c3u N (b9 N (e9 l)) 16 3))] 5 (c8o 6 3)) Tryz.f150 [rlV N 0 l] [arP l] (a6f (.sl 0 (x8 N.toNat (e9 l)).length) 23 (x8 N.toNat (e9 l)).length (l4 (x8 N.toNat (e9 l)))):=by
 rw[d1u]
 obtain⟨h1,h2,h3⟩:=y7.1 hv
 have hlen:=c6q (f:=e9 l) h2
 simp only[eq_self,true_and,and_true,z0p,imp_self,m5,n5,g8,i9,PLoop.of,s5,c3u,AV.len]
 refine⟨by omega,by omega,by omega,hl,⟨by omega,by omega⟩,(),⟨0,by simp,rfl,fun j hj=>?_,fun j hj i hi=>?_⟩,fun i hi=>⟨fun hlt=>?_,fun hlt=>?_⟩⟩
 ·rw[List.take_zero,a47 hj]; rfl
 ·rw[List.take_zero,a47 hj] at hi; simp[a7b] at hi
 ·have hi2:=b06 hlt
  have hm:=b1s hi2
  generalize hp:b8 (0,0) (b9 N (e9 l)) i=p at hm ⊢
  obtain⟨x,y,hx,hy,hxy,rfl⟩:=b8k.1 hm
  simp only[Int.toNat_natCast]
  have key:∀ j,j < N.toNat→b8 [] (y3 N.toNat (List.take (i + 1) (b9 N (e9 l)))) j=b8 [] (y3 N.toNat (List.take i (b9 N (e9 l)))) j ++ (if x=j then [(y:Int)] else []):=fun j hj=>by
   rw[a47 hj,a47 hj,c50 hi2,hp]
   congr 1
   by_cases e:x=j
   ·subst e; simp
   ·rw[if_neg e,if_neg (by simp only; omega)]
  have hr:(b8 [] (y3 N.toNat (List.take i (b9 N (e9 l)))) x).length≤4096:=by
   rw[a47 hx]
   exact Nat.le_trans c8a (Nat.le_trans (by simp; omega) hlen)
  refine⟨bd hi2,hi2,hx,by omega,hx,by omega,by omega,by omega,hx,i + 1,by omega,by omega,wrS (n:=4096) (by omega) (by omega),fun j hj=>?_,fun j hj k hk=>?_⟩
  ·rw[key j hj]
   by_cases e:j=x
   ·subst e; rw[d27,z0f,if_pos rfl]; simp
   ·rw[d26 e,z0m,if_neg (by omega),z1f]
  ·rw[key j hj] at hk ⊢
   by_cases e:j=x
   ·subst e
    rw[d27,z0f]
    rw[if_pos rfl] at hk ⊢
    by_cases hk2:k < (b8 [] (y3 N.toNat (List.take i (b9 N (e9 l)))) j).length
    ·rw[c5k hk2,z0f,a7m _ hk2]
    ·have e3:k=(b8 [] (y3 N.toNat (List.take i (b9 N (e9 l)))) j).length:=by simp at hk; omega
     rw[c5j hk2,z0m,e3,a9e,Nat.sub_self]
     rfl
   ·rw[d26 e,z0m,if_neg (by omega),z1f]
 ·have hi2:=a9y hlt hi
  rw[hi2,z3n,b44]
  refine⟨rfl,⟨fun j hj=>?_,fun j hj k hk=>?_⟩,rfl⟩
  ·rw[b5s hj]
  ·rw[b5s hj]
theorem d7f:o8 Tryz.prog 150:=⟨Tryz.f150,Tryz.func150,by kernel_rfl,by kernel_rfl⟩
def d4q:List AV→Tab
 | [.r N l]=>d0u [c3p [],b6m [none,none,none,none,some (.mp (e9 l)),some (.ps (b9 N (e9 l)))]] [(0,.of (c3u N (b9 N (e9 l)) 16 3))] 5 (c8o 6 3)
 | _=>tab [] []
theorem c150:CallOk Tryz.prog [] 150 (a1g EL [] [.r] c87):=by
 refine okT (fn:=Tryz.f150) Tryz.func150 d7f d4q (fun av=>?_) (fun av=>?_) (fun av pre rv h=>?_) (fun av pre rv h hp=>?_)
 ·unfold d4q; split <;> first | exact d4u (b1j (n148 _) (b1j (d3q _) a5z)) | exact a41 a5z
 ·unfold d4q; split <;> exact⟨rfl,rfl⟩
 ·unfold c87 at h; split at h <;> cases h
  exact⟨rfl,fun t a e=>by cases e <;> exact z0k _ _⟩
 ·unfold c87 at h; split at h <;> cases h
  exact v150 _ _ (hp _ (.head _)) (hp _ (.tail _ (.head _)))
theorem n150 (nm:List (Option AV)):CallOk Tryz.prog [] 150 (a1g EL nm [.r] c87):=a7x c150
inductive Tr (f:Pf):Int→Int→Prop
 | one {a b:Int}:f a b=true→Tr f a b
 | tail {a b c:Int}:Tr f a b→f b c=true→Tr f a c
theorem Tr.trans {f:Pf} {a b c:Int} (h:Tr f a b) (h':Tr f b c):Tr f a c:=by
 induction h' with
 | one e=>exact .tail h e
 | tail _ e ih=>exact .tail ih e
def Sup (n:Nat) (f:Pf):Prop:=∀ a b,f a b=true→0≤a∧a < (n:Int)∧0≤b∧b < (n:Int)
theorem Tr.sup {n:Nat} {f:Pf} (hs:Sup n f) {a b:Int} (h:Tr f a b):0≤a∧a < (n:Int)∧0≤b∧b < (n:Int):=by
 induction h with
 | one e=>exact hs _ _ e
 | tail _ e ih=>have:=hs _ _ e; omega
def wF (f:Pf):Nat→Pf
 | 0=>f
 | m + 1=>fun a b=>wF f m a b || (wF f m a m && wF f m m b)
theorem c2y {f:Pf} {a b:Int}:∀ {m k:Nat},m≤k→wF f m a b=true→wF f k a b=true:=by
 intro m k h
 induction k with
 | zero =>
      intro e; have:m=0:=by omega
      subst this; exact e
 | succ k ih =>
  intro e
  by_cases hm:m=k + 1
  ·subst hm; exact e
  ·simp only[wF,ih (by omega) e,Bool.true_or]
theorem c8x {f:Pf} {a b:Int}:∀ {m:Nat},wF f m a b=true→Tr f a b:=by
 intro m
 induction m generalizing a b with
 | zero=>exact fun e=>.one e
 | succ m ih =>
  intro e
  simp only[wF,z1r,z0d] at e
  rcases e with e | ⟨e1,e2⟩
  ·exact ih e
  ·exact(ih e1).trans (ih e2)
theorem d22 {f:Pf}:∀ {m k:Nat} {a b:Int},k < m→wF f m a k=true→wF f m k b=true→wF f m a b=true:=by
 intro m
 induction m with
 | zero=>intro k a b h; omega
 | succ m ih =>
  intro k a b hk h1 h2
  simp only[wF,z1r,z0d] at h1 h2 ⊢
  by_cases e:k=m
  ·subst e
   have e1:wF f k a k=true:=by rcases h1 with h | h; exact h; exact h.1
   have e2:wF f k k b=true:=by rcases h2 with h | h; exact h; exact h.2
   exact .inr ⟨e1,e2⟩
  ·have hk2:k < m:=by omega
   rcases h1 with h1 | ⟨h1,h3⟩ <;> rcases h2 with h2 | ⟨h2,h4⟩
   ·exact .inl (ih hk2 h1 h2)
   ·exact .inr ⟨ih hk2 h1 h2,h4⟩
   ·exact .inr ⟨h1,ih hk2 h3 h2⟩
   ·exact .inr ⟨h1,h4⟩
theorem b7p {n:Nat} {f:Pf} (hs:Sup n f) {a b:Int}:wF f n a b=true↔Tr f a b:=by
 refine⟨c8x,fun h=>?_⟩
 induction h with
 | one e=>exact c2y (m:=0) (z2j _) e
 | @tail b c h e ih =>
  have h1:=hs _ _ e
  obtain⟨k,rfl⟩:=z2z h1.1
  exact d22 (k:=k) (by omega) ih (c2y (m:=0) (z2j _) e)
def c4l (s:Pf) (a c:Int):Pf:=fun x y=>(x == a && y == c) || s x y
def dfs (R:List (List Int)) (a:Int):Nat→Int→Pf→Pf
 | 0,_,s=>s
 | F + 1,b,s=>(b8 [] R b.toNat).foldl (fun s c=>bif s a c then s else dfs R a F c (c4l s a c)) s
def a0w (R:List (List Int)) (a:Int) (F:Nat):Pf→Int→Pf:=fun s c=>bif s a c then s else dfs R a F c (c4l s a c)
theorem b80 (R:List (List Int)) (a:Int) (F:Nat) (b:Int) (s:Pf):dfs R a (F + 1) b s=(b8 [] R b.toNat).foldl (a0w R a F) s:=rfl
def unv (n:Nat) (s:Pf) (a:Int):Nat:=((List.range n).filter (fun c:Nat=>!s a c)).length
theorem a5k {s:Pf} {a c x y:Int}:c4l s a c x y=true↔(x=a∧y=c)∨s x y=true:=by
 simp[c4l]
theorem a7v {α:Type} {p q:α→Bool} {l:List α} (h:∀ x∈l,p x=true→q x=true):(l.filter p).length≤(l.filter q).length:=by
 induction l with
 | nil=>simp
 | cons x l ih =>
  have ih:=ih fun y hy=>h y (z0w _ hy)
  have hx:=h x z1h
  simp only[List.filter_cons]
  split <;> split <;> simp <;> first | omega | (rename_i e1 e2; exact absurd (hx e1) e2)
theorem a7w {α:Type} {p q:α→Bool} {l:List α} (h:∀ x∈l,p x=true→q x=true) {y:α} (hy:y∈l) (h1:p y=false) (h2:q y=true):(l.filter p).length < (l.filter q).length:=by
 induction l with
 | nil=>cases hy
 | cons x l ih =>
  have hx:=h x z1h
  have hle:=a7v (l:=l) fun y hy=>h y (z0w _ hy)
  simp only[List.filter_cons]
  rcases z0s.1 hy with rfl | hy
  ·rw[h1,h2]; simp; omega
  ·have ih:=ih (fun y hy=>h y (z0w _ hy)) hy
   split <;> split <;> simp <;> first | omega | (rename_i e1 e2; exact absurd (hx e1) e2)
theorem b9t {n:Nat} {s s':Pf} {a:Int} (h:∀ y,s a y=true→s' a y=true):unv n s' a≤unv n s a:=a7v fun x _ hx=>by
 cases e:s a x
 ·rfl
 ·rw[h _ e] at hx; exact hx
theorem c2u {n:Nat} {s:Pf} {a c:Int} (h0:0≤c) (h1:c < n) (h:s a c=false):unv n (c4l s a c) a < unv n s a:=by
 obtain⟨k,rfl⟩:=z2z h0
 refine a7w (fun x _ hx=>?_) (y:=k) (z2q.2 (by omega)) ?_ ?_
 ·cases e:s a x
  ·rfl
  ·rw[a5k.2 (.inr e)] at hx; exact hx
 ·rw[a5k.2 (.inl ⟨rfl,rfl⟩)]; rfl
 ·rw[h]; rfl
theorem c8p {n:Nat} {s:Pf} {a:Int}:unv n s a≤n:=Nat.le_trans (List.length_filter_le _ _) (by simp)
structure RowsOf (n:Nat) (f:Pf) (R:List (List Int)):Prop where
 sup:Sup n f
 mem:∀ b c,0≤b→b < (n:Int)→(c∈b8 [] R b.toNat↔f b c=true)
structure Wk (f:Pf) (a b:Int) (L:List Int) (s s':Pf):Prop where
 mono:∀ x y,s x y=true→s' x y=true
 only:∀ x y,s' x y=true→s x y=true∨(x=a∧Tr f b y)
 all:∀ c∈L,s' a c=true
 shut:∀ c,s' a c=true→s a c=true∨∀ d,f c d=true→s' a d=true
theorem c30 {n:Nat} {f:Pf} {R:List (List Int)} (hr:RowsOf n f R) {a:Int} {F:Nat} {b:Int} (ih:∀ c s,0≤c→c < (n:Int)→unv n s a < F→Wk f a c (b8 [] R c.toNat) s (dfs R a F c s)):∀(L:List Int) (s:Pf),(∀ c∈L,f b c=true)→unv n s a < F + 1→Wk f a b L s (L.foldl (a0w R a F) s):=by
 intro L
 induction L with
 | nil=>exact fun s _ _=>⟨fun _ _ h=>h,fun _ _ h=>.inl h,fun _ h=>(by cases h),fun _ h=>.inl h⟩
 | cons c L ihL =>
  intro s hL hu
  rw[List.foldl_cons]
  have hc:=hL c z1h
  have hcn:=hr.sup _ _ hc
  have h1:Wk f a b [c] s (a0w R a F s c):=by
   unfold a0w
   cases e:s a c
   ·have hu2:=c2u hcn.2.2.1 hcn.2.2.2 e
    have w:=ih c (c4l s a c) hcn.2.2.1 hcn.2.2.2 (by omega)
    refine⟨fun x y h=>w.mono _ _ (a5k.2 (.inr h)),fun x y h=>?_,fun d hd=>?_,fun d hd=>?_⟩
    ·rcases w.only x y h with h | ⟨rfl,h⟩
     ·rcases a5k.1 h with⟨rfl,rfl⟩ | h
      ·exact .inr ⟨rfl,.one hc⟩
      ·exact .inl h
     ·rename_i h'
      exact .inr ⟨rfl,(Tr.one hc).trans h'⟩
    ·cases hd with
     | head=>exact w.mono _ _ (a5k.2 (.inl ⟨rfl,rfl⟩))
     | tail _ h=>cases h
    ·rcases w.shut d hd with h | h
     ·rcases a5k.1 h with⟨_,rfl⟩ | h
      ·exact .inr fun x hx=>w.all x ((hr.mem d x hcn.2.2.1 hcn.2.2.2).2 hx)
      ·exact .inl h
     ·exact .inr h
   ·exact⟨fun _ _ h=>h,fun _ _ h=>.inl h,fun d hd=>(by
     rw[z0r.1 hd]; exact e),fun _ h=>.inl h⟩
  have hm:=b9t (n:=n) (s:=s) (s':=a0w R a F s c) (a:=a) (h1.mono a)
  have h2:=ihL (a0w R a F s c) (fun d hd=>hL d (z0w _ hd)) (by omega)
  refine⟨fun x y h=>h2.mono _ _ (h1.mono _ _ h),fun x y h=>(h2.only x y h).elim (h1.only x y) .inr,fun d hd=>?_,fun d hd=>?_⟩
  ·rcases z0s.1 hd with rfl | hd
   ·exact h2.mono _ _ (h1.all _ z1h)
   ·exact h2.all d hd
  ·rcases h2.shut d hd with h | h
   ·rcases h1.shut d h with h | h
    ·exact .inl h
    ·exact .inr fun x hx=>h2.mono _ _ (h x hx)
   ·exact .inr h
theorem c90 {n:Nat} {f:Pf} {R:List (List Int)} (hr:RowsOf n f R) {a:Int}:∀(F:Nat) (b:Int) (s:Pf),0≤b→b < (n:Int)→unv n s a < F→Wk f a b (b8 [] R b.toNat) s (dfs R a F b s):=by
 intro F
 induction F with
 | zero=>intro b s _ _ h; omega
 | succ F ih =>
  intro b s h1 h2 h3
  rw[b80]
  exact c30 hr (fun c s q1 q2 q3=>ih c s q1 q2 q3) _ s (fun c hc=>(hr.mem b c h1 h2).1 hc) h3
def a8t (R:List (List Int)) (n:Nat):Nat→Pf
 | 0=>fun _ _=>false
 | k + 1=>dfs R k (n + 1) k (a8t R n k)
theorem c5r {n:Nat} {f:Pf} {R:List (List Int)} (hr:RowsOf n f R):∀ k,k≤n→∀ x y,a8t R n k x y=true↔0≤x∧x < (k:Int)∧Tr f x y:=by
 intro k
 induction k with
 | zero=>intro _ x y; simp only[a8t]; constructor; intro h; cases h; intro h; omega
 | succ k ih =>
  intro hk x y
  have ih:=ih (by omega)
  have w:=c90 hr (a:=(k:Int)) (n + 1) (k:Int) (a8t R n k) (by omega) (by omega) (by have:=c8p (n:=n) (s:=a8t R n k) (a:=(k:Int)); omega)
  simp only[a8t]
  constructor
  ·intro h
   rcases w.only x y h with h | ⟨e,h'⟩
   ·have:=(ih x y).1 h
    exact⟨this.1,by omega,this.2.2⟩
   ·rw[e]; exact⟨by omega,by omega,h'⟩
  ·rintro ⟨h1,h2,h3⟩
   by_cases e:x < (k:Int)
   ·exact w.mono _ _ ((ih x y).2 ⟨h1,e,h3⟩)
   ·have e:x=(k:Int):=by omega
    rw[e] at h3 ⊢
    clear h1 h2 e
    induction h3 with
    | one e=>exact w.all _ ((hr.mem _ _ (by omega) (by omega)).2 e)
    | @tail c d h e ih2 =>
     rcases w.shut c ih2 with h4 | h4
     ·have:=(ih _ _).1 h4; omega
     ·exact h4 d e
theorem c9a {n:Nat} {f:Pf} {R:List (List Int)} (hr:RowsOf n f R):a8t R n n=wF f n:=by
 funext x y
 rw[z3i,c5r hr n (z0q n),b7p hr.sup]
 constructor
 ·exact fun h=>h.2.2
 ·exact fun h=>⟨(h.sup hr.sup).1,(h.sup hr.sup).2.1,h⟩
theorem b3w {n:Nat} {f:Pf} (hs:Sup n f):RowsOf n f (x8 n f):=⟨hs,fun b c h0 h1=>by
 obtain⟨k,rfl⟩:=z2z h0
 rw[Int.toNat_natCast,b0f (by omega),z2h]
 constructor
 ·rintro ⟨p,hp,rfl⟩
  obtain⟨b,_,h,rfl⟩:=a73.1 hp
  exact h
 ·intro h
  have:=hs _ _ h
  obtain⟨j,rfl⟩:=z2z this.2.2.1
  exact⟨_,a73.2 ⟨j,by omega,h,rfl⟩,rfl⟩⟩
theorem b7l {N:Int} {l:List Pq} (hv:d9 N l=true):Sup N.toNat (e9 l):=fun a b h=>by
 obtain⟨h1,h2,h3⟩:=y7.1 hv
 have:=h3 _ (a5n.1 h)
 simp only at this
 omega
def a3a (R:List (List Int)) (b:Int):List Int:=b8 [] R b.toNat
def visF:SV:=.fn 151 [.ptr 0 0,.ptr 1 0,.ptr 2 0,.ptr 3 0]
def d69 (R:List (List Int)) (a:Int) (s:Pf):List MBlk:=[.cells [.sl 5 R.length],.cells [.i .i64 a],.cells [.mp 4],.cells [visF],.mapp s,.oarr 23 R.length (l4 R)]
def d6a (b:Int):List SV:=[.i .i64 b,.ptr 0 0,.ptr 1 0,.ptr 2 0,.ptr 3 0]
def c2w (R:List (List Int)) (a:Int) (s:Pf):List (Nat × MBlk):=[(0,.cells [.sl 5 R.length]),(1,.cells [.i .i64 a]),(2,.cells [.mp 4]),(3,.cells [visF]),(4,.mapp s),(5,.oarr 23 R.length (l4 R))]
def b5d (R:List (List Int)) (F:Nat):List MBlk→List SV→Option BRes
 | m,[.i .i64 b,.ptr e1 0,.ptr e2 0,.ptr e3 0,.ptr e4 0]=>match nth m e1,nth m e2,nth m e3,nth m e4 with
  | some (.cells [.sl r n]),some (.cells [.i .i64 a]),some (.cells [.mp q]),some (.cells [.fn 151 [.ptr p1 0,.ptr p2 0,.ptr p3 0,.ptr p4 0]])=>match nth m r,nth m q with
   | some (.oarr 23 n' [.rows len [g]]),some (.mapp s) =>
    bif Nat.beq p1 e1 && Nat.beq p2 e2 && Nat.beq p3 e3 && Nat.beq p4 e4 && a74 [e1,e2,e3,e4,q,r] then
     some (tB [e1,e2,e3,e4,q,r] [] (c2w R a (dfs R a F b s)) (.tup []) [n=R.length,n'=R.length,len=(fun j=>(b8 [] R j).length),g=(fun j i=>b8 0 (b8 [] R j) i),0≤b∧b < (R.length:Int),unv R.length s a < F])
    else none
   | _,_=>none
  | _,_,_,_=>none
 | _,_=>none
def kVis (R:List (List Int)) (F:Nat):Nat × (List MBlk→List SV→Option BRes):=(151,b5d R F)
def b8e (R:List (List Int)) (F:Nat) (a b:Int) (s:Pf):LAnn:=s5 (a3a R b).length 14 (fun _=>True) (fun i=>[(4,.mapp (((a3a R b).take i).foldl (a0w R a F) s))]) []
def c2v (R:List (List Int)) (a:Int) (s:Pf):SV→List MBlk→Prop:=fun sv m'=>veq (.tup []) sv∧a61 (a7u (c2w R a s) 0 6) m'
def d0v (R:List (List Int)) (F:Nat) (loops:List (Nat × PLoop)) (pins:List (Nat × (Option Addr × Nat))):Tab:=⟨a6h,[],[],loops,[kVis R F],pins,[],[],[],none,false⟩
theorem c0g {n:Nat} {f:Pf} {R:List (List Int)} (hr:RowsOf n f R) {a:Int} {F:Nat} {b:Int} {L:List Int} {s:Pf} (hL:∀ c∈L,f b c=true) (hu:unv n s a < F + 1):unv n (L.foldl (a0w R a F) s) a≤unv n s a:=
 b9t ((c30 hr (fun c s q1 q2 q3=>c90 hr F c s q1 q2 q3) L s hL hu).mono a)
theorem d1v (R:List (List Int)) (F:Nat) (a b:Int) (s:Pf) (x:Nat→Option Addr × Nat):(n9 (d0v R F [(0,.of (b8e R F a b s))] (a55 x [] 6)) Tryz.f151 (d6a b) (d69 R a s) (c2v R a (dfs R a (F + 1) b s)))=(
 let c:=b8 [] R b.toNat
 let d:=(0:Int)
 let e:=(↑c.length:Int)
 let f:=a3a R b
 let g:=a0w R a F
 let h:=PLoop.of (b8e R F a b s)
 let k:=True∧True∧True∧True
 (d≤b∧b < (↑R.length:Int))∧b.toNat < R.length∧∃(x:PUnit),(∃(x:Nat),(x≤f.length∧True)∧(d=(↑x:Int)∧True)∧(∀(x_1 y:Int),s x_1 y=List.foldl g s (List.take x f) x_1 y)∧True)∧∀(x_1:Nat),x_1≤f.length∧True→(decide ((↑x_1:Int) < e)=true→(d≤(↑x_1:Int)∧(↑x_1:Int) < e)∧x_1 < c.length∧((!List.foldl g s (List.take x_1 f) a (b8 d c x_1))=true→R.length=R.length∧R.length=R.length∧((fun(j:Nat)=>(b8 [] R j).length)=fun(j:Nat)=>(b8 [] R j).length)∧((fun(j i:Nat)=>b8 d (b8 [] R j) i)=fun(j i:Nat)=>b8 d (b8 [] R j) i)∧(d≤b8 d c x_1∧b8 d c x_1 < (↑R.length:Int))∧unv R.length (fun(a_4 b_1:Int)=>a_4 ==a && b_1 ==b8 d c x_1 || List.foldl g s (List.take x_1 f) a_4 b_1) a < F∧∃(x_2:Nat),(x_2≤f.length∧True)∧(h.ann x).mu x_2 < (h.ann x).mu x_1∧(b=b∧True∧True∧True∧True∧R.length=R.length∧b=b∧b.toNat=b.toNat∧c.length=c.length∧e=e∧IntKind.i64.wrap ((↑x_1:Int) + (1:Int))=(↑x_2:Int)∧True)∧R.length=R.length∧a=a∧True∧k∧(∀(x y:Int),dfs R a F (b8 d c x_1) (fun(a_4 b_1:Int)=>a_4 ==a && b_1 ==b8 d c x_1 || List.foldl g s (List.take x_1 f) a_4 b_1) x y=List.foldl g s (List.take x_2 f) x y)∧(R.length=R.length∧((∀(j:Nat),j < R.length→(b8 [] R j).length=(b8 [] R j).length)∧(∀(j:Nat),j < R.length→∀(i:Nat),i < (b8 [] R j).length→b8 d (b8 [] R j) i=b8 d (b8 [] R j) i)∧True)∧True)∧(c.length=c.length∧(∀(j:Nat),j < c.length→b8 d c j=b8 d c j)∧True)∧True)∧((!List.foldl g s (List.take x_1 f) a (b8 d c x_1))=false→∃(x_2:Nat),(x_2≤f.length∧True)∧(h.ann x).mu x_2 < (h.ann x).mu
 x_1∧(b=b∧True∧True∧True∧True∧R.length=R.length∧b=b∧b.toNat=b.toNat∧c.length=c.length∧e=e∧IntKind.i64.wrap ((↑x_1:Int) + (1:Int))=(↑x_2:Int)∧True)∧R.length=R.length∧a=a∧True∧k∧(∀(x y:Int),List.foldl g s (List.take x_1 f) x y=List.foldl g s (List.take x_2 f) x y)∧(R.length=R.length∧((∀(j:Nat),j < R.length→(b8 [] R j).length=(b8 [] R j).length)∧(∀(j:Nat),j < R.length→∀(i:Nat),i < (b8 [] R j).length→b8 d (b8 [] R j) i=b8 d (b8 [] R j) i)∧True)∧True)∧(c.length=c.length∧(∀(j:Nat),j < c.length→b8 d c j=b8 d c j)∧True)∧True))∧(decide ((↑x_1:Int) < e)=false→True∧R.length=R.length∧a=a∧True∧k∧(∀(x y:Int),List.foldl g s (List.take x_1 f) x y=dfs R a (F + (1:Nat)) b s x y)∧(R.length=R.length∧((∀(j:Nat),j < R.length→(b8 [] R j).length=(b8 [] R j).length)∧(∀(j:Nat),j < R.length→∀(i:Nat),i < (b8 [] R j).length→b8 d (b8 [] R j) i=b8 d (b8 [] R j) i)∧True)∧True)∧True)):=by kernel_rfl
theorem v151 (R:List (List Int)) (F:Nat) (a b:Int) (s:Pf) (x:Nat→Option Addr × Nat) {f:Pf} (hr:RowsOf R.length f R) (hl:∀ j,(b8 [] R j).length≤64) (hb:0≤b∧b < (R.length:Int)) (hu:unv R.length s a < F + 1):n9 (d0v R F [(0,.of (b8e R F a b s))] (a55 x [] 6)) Tryz.f151 (d6a b) (d69 R a s) (c2v R a (dfs R a (F + 1) b s)):=by
 rw[d1v]
 simp only[eq_self,true_and,and_true,z0p,imp_self,m5,n5,g8,i9,PLoop.of,s5,b8e,AV.len]
 refine⟨hb,by omega,(),⟨0,by simp,rfl,fun x y=>by simp⟩,fun i hi=>⟨fun hlt=>?_,fun hlt x y=>?_⟩⟩
 ·have hi2:i < (b8 [] R b.toNat).length:=b06 hlt
  have hlb:=hl b.toNat
  have hmem:b8 0 (b8 [] R b.toNat) i∈b8 [] R b.toNat:=by rw[s9 _ _ _ hi2]; exact z2r hi2
  have hf:=(hr.mem b _ hb.1 hb.2).1 hmem
  have hc:=hr.sup _ _ hf
  have hmo:=c0g hr (L:=List.take i (a3a R b)) (s:=s) (a:=a) (F:=F) (b:=b) (fun c hc=>(hr.mem b c hb.1 hb.2).1 (List.mem_of_mem_take hc)) hu
  have ht:List.take (i + 1) (a3a R b)=List.take i (a3a R b) ++ [b8 0 (b8 [] R b.toNat) i]:=a69 0 hi2
  refine⟨bd hi2,hi2,fun hn=>⟨⟨hc.2.2.1,hc.2.2.2⟩,?_,i + 1,?_,?_,wrS (n:=64) (by omega) (by omega),fun x y=>?_⟩,fun hn=>⟨i + 1,?_,?_,wrS (n:=64) (by omega) (by omega),fun x y=>?_⟩⟩
  ·have hn2:List.foldl (a0w R a F) s (List.take i (a3a R b)) a (b8 0 (b8 [] R b.toNat) i)=false:=by simpa using hn
   have:=c2u (n:=R.length) hc.2.2.1 hc.2.2.2 hn2
   have h3:unv R.length (fun a_4 b_1=>a_4 == a && b_1 == b8 0 (b8 [] R b.toNat) i || List.foldl (a0w R a F) s (List.take i (a3a R b)) a_4 b_1) a < unv R.length (List.foldl (a0w R a F) s (List.take i (a3a R b))) a:=this
   omega
  ·exact hi2
  ·have:i < (a3a R b).length:=hi2
   omega
  ·have hn2:List.foldl (a0w R a F) s (List.take i (a3a R b)) a (b8 0 (b8 [] R b.toNat) i)=false:=by simpa using hn
   rw[ht,List.foldl_append]
   show _=a0w R a F (List.foldl (a0w R a F) s (List.take i (a3a R b))) (b8 0 (b8 [] R b.toNat) i) x y
   rw[a0w,hn2]
   rfl
  ·exact hi2
  ·have:i < (a3a R b).length:=hi2
   omega
  ·have hn2:List.foldl (a0w R a F) s (List.take i (a3a R b)) a (b8 0 (b8 [] R b.toNat) i)=true:=by simpa using hn
   rw[ht,List.foldl_append]
   show _=a0w R a F (List.foldl (a0w R a F) s (List.take i (a3a R b))) (b8 0 (b8 [] R b.toNat) i) x y
   rw[a0w,hn2]
   rfl
 ·have hi2:i=(a3a R b).length:=a9y hlt hi
  rw[hi2,z3n,b80]
  rfl
theorem d29:o8 Tryz.prog 151:=⟨Tryz.f151,Tryz.func151,by kernel_rfl,by kernel_rfl⟩
theorem d4v {R:List (List Int)} {F:Nat} {loops:List (Nat × PLoop)} {pins:List (Nat × (Option Addr × Nat))} (h:CallOkB Tryz.prog [] 151 (b5d R F)):TabOk Tryz.prog (d0v R F loops pins):=⟨mixed,tys,ints,fun _ _ hf=>(by cases hf),fun g G hf=>(by
 have h2:=w5 hf
 rcases z0r.1 h2 with h3
 cases h3
 exact h),fun _ _ hf=>(by cases hf),fun _ hf=>by cases hf⟩
theorem c2x {R:List (List Int)} {F:Nat} {m:List MBlk} {vs:List SV} {b:BRes} (h:b5d R F m vs=some b):∃(y:Int) (e1 e2 e3 e4 r q n n':Nat) (a:Int) (len:Nat→Nat) (g:Nat→Nat→Int) (s:Pf),
  vs=[.i .i64 y,.ptr e1 0,.ptr e2 0,.ptr e3 0,.ptr e4 0]∧nth m e1=some (.cells [.sl r n])∧nth m e2=some (.cells [.i .i64 a])∧nth m e3=some (.cells [.mp q])∧nth m e4=some (.cells [.fn 151 [.ptr e1 0,.ptr e2 0,.ptr e3 0,.ptr e4 0]]) ∧
  nth m r=some (.oarr 23 n' [.rows len [g]])∧nth m q=some (.mapp s)∧a74 [e1,e2,e3,e4,q,r]=true ∧
  b=tB [e1,e2,e3,e4,q,r] [] (c2w R a (dfs R a F y s)) (.tup []) [n=R.length,n'=R.length,len=(fun j=>(b8 [] R j).length),g=(fun j i=>b8 0 (b8 [] R j) i),0≤y∧y < (R.length:Int),unv R.length s a < F]:=by
 unfold b5d at h
 repeat' (split at h)
 all_goals first | cases h | skip
 rename_i _ _ y e1 e2 e3 e4 _ _ _ _ r n a q p1 p2 p3 p4 h1 h2 h3 h4 _ _ n' len g s h5 h6
 cases hc:(p1.beq e1 && p2.beq e2 && p3.beq e3 && p4.beq e4 && a74 [e1,e2,e3,e4,q,r]) <;> rw[hc] at h
 ·cases h
 ·simp only[z0d] at hc
  obtain⟨⟨⟨⟨q1,q2⟩,q3⟩,q4⟩,q5⟩:=hc
  have q1:=z0b q1
  have q2:=z0b q2
  have q3:=z0b q3
  have q4:=z0b q4
  subst q1; subst q2; subst q3; subst q4
  simp only[z0f,z0a] at h
  exact⟨_,_,_,_,_,_,_,_,_,_,_,_,_,rfl,h1,h2,h3,h4,h5,h6,q5,h.symm⟩
theorem b151 {R:List (List Int)} {f:Pf} (hr:RowsOf R.length f R) (hl:∀ j,(b8 [] R j).length≤64):∀ F,CallOkB Tryz.prog [] 151 (b5d R F):=by
 intro F
 induction F with
 | zero =>
  refine c20 Tryz.func151 d29 fun m vs b h hp=>?_
  obtain⟨y,e1,e2,e3,e4,r,q,n,n',a,len,g,s,rfl,h1,h2,h3,h4,h5,h6,h7,rfl⟩:=c2x h
  have:=hp (unv R.length s a < 0) (by simp[tB])
  omega
 | succ F ih =>
  refine c20 Tryz.func151 d29 fun m vs b h hp=>?_
  obtain⟨y,e1,e2,e3,e4,r,q,n,n',a,len,g,s,rfl,h1,h2,h3,h4,h5,h6,h7,rfl⟩:=c2x h
  have p1:=hp (n=R.length) (by simp[tB])
  have p2:=hp (n'=R.length) (by simp[tB])
  have p3:=hp (len=_) (.tail _ (.tail _ (.head _)))
  have p4:=hp (g=_) (.tail _ (.tail _ (.tail _ (.head _))))
  have p5:=hp (0≤y∧y < (R.length:Int)) (by simp[tB])
  have p6:=hp (unv R.length s a < F + 1) (by simp[tB])
  subst p1; subst p2; subst p3; subst p4
  refine⟨d0v R F [(0,.of (b8e R F a y s))] [],[e1,e2,e3,e4,q,r],d69 R a s,d6a y,[],c2w R a (dfs R a (F + 1) y s),.tup [],_,fun pins=>d4v ih,rfl,rfl,h7,rfl,rfl,fun i k0 hk=>?_,rfl,fun x=>v151 R F a y s x hr hl p5 p6⟩
  rw[t0] at h1 h2 h3 h4 h5 h6
  match i with
  | 0=>cases hk; exact h1
  | 1=>cases hk; exact h2
  | 2=>cases hk; exact h3
  | 3=>cases hk; exact h4
  | 4=>cases hk; exact h6
  | 5=>cases hk; exact h5
  | _ + 6=>cases hk
def c66 (R:List (List Int)) (N:Int) (t e:Nat):LAnn:=s5 N.toNat t (fun _=>True) (fun k=>[(e,.mapp (a8t R N.toNat k))]) []
def d4r (calls:a1x) (R:List (List Int)) (F:Nat) (loops:List (Nat × PLoop)):Tab:=⟨a6h,[],calls,loops,[kVis R F],[],[],[],[],none,false⟩
def c7x:Sp:=fun | [.r N l]=>some ([d9 N l=true,L9 l],.mp (wF (e9 l) N.toNat)) | _=>none
def c3n (nm:List (Option AV)):Nat × (List MBlk→List SV→Option AR):=(120,a1g EL nm [.r] c7x)
theorem d09 {n:Nat} {f:Pf} (h:n≤64) (j:Nat):(b8 [] (x8 n f) j).length≤64:=by
 by_cases hj:j < n
 ·rw[b0f hj,List.length_map]; exact Nat.le_trans (a9l f j n) h
 ·rw[nthD_out _ _ _ (by simp; omega)]; simp
theorem d4s {calls:a1x} {R:List (List Int)} {F:Nat} {loops:List (Nat × PLoop)} (h:∀ p∈calls,CallOk Tryz.prog [] p.1 p.2) (hb:CallOkB Tryz.prog [] 151 (b5d R F)):TabOk Tryz.prog (d4r calls R F loops):=⟨mixed,tys,ints,fun _ _ hf=>h _ (w5 hf),fun g G hf=>(by
 have h2:=w5 hf
 rcases z0r.1 h2 with h3
 cases h3
 exact hb),fun _ _ hf=>(by cases hf),fun _ hf=>by cases hf⟩
theorem d1d (N:Int) (l:List Pq):(n9 (d4r [kSuc [none,none,some (.rs (x8 N.toNat (e9 l)))]] (x8 N.toNat (e9 l)) (N.toNat + 1) [(0,.of (c66 (x8 N.toNat (e9 l)) N 12 4))]) Tryz.f120 [rlV N 0 l] [arP l] (a79 (wF (e9 l) N.toNat)))=(
 let a:=x8 N.toNat (e9 l)
 let b:=((0:Int),(0:Int))
 let c:=AV.rs a
 let d:=N=N∧l.length=l.length
 let e:=PLoop.of (c66 a N (12:Nat) (4:Nat))
 let f:=(0:Int)
 l.length=l.length∧d9 N (mkN (fun(j:Nat)=>((b8 b l j).fst,(b8 b l j).snd)) l.length)=true∧(mkN (fun(j:Nat)=>((b8 b l j).fst,(b8 b l j).snd)) l.length).length≤(1099511627776:Nat)∧x8 N.toNat (e9 (mkN (fun(j:Nat)=>((b8 b l j).fst,(b8 b l j).snd)) l.length))=x8 N.toNat (e9 l)∧∃(x:PUnit),(∃(x:Nat),(x≤N.toNat∧True)∧(f=(↑x:Int)∧True)∧(∀(x_1 y:Int),false=a8t a N.toNat x x_1 y)∧True)∧∀(x_1:Nat),x_1≤N.toNat∧True→(decide ((↑x_1:Int) < N)=true→c.len=a.length∧c.len=a.length∧((fun(j:Nat)=>(b8 [] a j).length)=fun(j:Nat)=>(b8 [] a j).length)∧((fun(j i:Nat)=>b8 f (b8 [] a j) i)=fun(j i:Nat)=>b8 f (b8 [] a j) i)∧(f≤(↑x_1:Int)∧(↑x_1:Int) < (↑a.length:Int))∧unv a.length (a8t a N.toNat x_1) (↑x_1:Int) < N.toNat + (1:Nat)∧∃(x_2:Nat),(x_2≤N.toNat∧True)∧(e.ann x).mu x_2 < (e.ann x).mu x_1∧(d∧True∧True∧True∧True∧d∧c.len=c.len∧True∧True∧N=N∧IntKind.i64.wrap ((↑x_1:Int) + (1:Int))=(↑x_2:Int)∧True)∧(l.length=l.length∧(∀(j:Nat),j < l.length→(b8 b l j).fst=(b8 b l j).fst)∧(∀(j:Nat),j < l.length→(b8 b l j).snd=(b8 b l j).snd)∧True)∧d∧(a.length=c.len∧((∀(j:Nat),j < c.len→(b8 [] a j).length=(b8 [] a j).length)∧(∀(j:Nat),j < c.len→∀(i:Nat),i < (b8 [] a j).length→b8 f (b8 [] a j) i=b8 f (b8 [] a j) i)∧True)∧True)∧a.length=c.len∧(∀(x y:Int),dfs a (↑x_1:Int) (N.toNat + (1:Nat)) (↑x_1:Int) (a8t a N.toNat x_1) x y=a8t a N.toNat x_2 x y)∧True∧True)∧(decide ((↑x_1:Int) < N)=false→∀(x y:Int),a8t a N.toNat x_1 x y=wF (e9 l) N.toNat x y)):=by kernel_rfl
theorem v120 (N:Int) (l:List Pq) (hv:d9 N l=true) (hl:L9 l):n9 (d4r [kSuc [none,none,some (.rs (x8 N.toNat (e9 l)))]] (x8 N.toNat (e9 l)) (N.toNat + 1) [(0,.of (c66 (x8 N.toNat (e9 l)) N 12 4))]) Tryz.f120 [rlV N 0 l] [arP l] (a79 (wF (e9 l) N.toNat)):=by
 rw[d1d]
 simp only[eq_self,true_and,and_true,z0p,imp_self,m5,n5,g8,i9,PLoop.of,s5,c66,AV.len,b44]
 obtain⟨h1,h2,h3⟩:=y7.1 hv
 refine⟨hv,hl,(),⟨0,by simp,rfl,fun x y=>rfl⟩,fun k hk=>⟨fun hlt=>?_,fun hlt x y=>?_⟩⟩
 ·have hlt2:=z0e hlt
  refine⟨⟨by omega,by omega⟩,?_,k + 1,by omega,by omega,wrS (n:=64) (by omega) (by omega),fun x y=>rfl⟩
  have:=c8p (n:=N.toNat) (s:=a8t (x8 N.toNat (e9 l)) N.toNat k) (a:=(k:Int))
  omega
 ·have hlt2:=z0l hlt
  have e:k=N.toNat:=by omega
  rw[e,c9a (b3w (b7l hv))]
theorem d6w:o8 Tryz.prog 120:=⟨Tryz.f120,Tryz.func120,by kernel_rfl,by kernel_rfl⟩
theorem c120:CallOk Tryz.prog [] 120 (a1g EL [] [.r] c7x):=by
 refine d2a (fn:=Tryz.f120) Tryz.func120 d6w (fun av pre rv h=>?_) (fun av pre rv h hp=>?_)
 ·unfold c7x at h; split at h <;> cases h
  exact⟨rfl,fun t a e=>by cases e⟩
 ·unfold c7x at h; split at h <;> cases h
  rename_i N l
  have hv:d9 N l=true:=hp _ (.head _)
  obtain⟨h1,h2,h3⟩:=y7.1 hv
  refine⟨_,d4s (b1j (n150 _) a5z) (b151 (f:=e9 l) ?_ (d09 (by omega)) _),rfl,rfl,v120 _ _ hv (hp _ (.tail _ (.head _)))⟩
  rw[b44]
  exact b3w (b7l hv)
theorem n120 (nm:List (Option AV)):CallOk Tryz.prog [] 120 (a1g EL nm [.r] c7x):=a7x c120
end Go.Proofs.YtaeeaniofljmnaaGreatDoor

/-
  A part of the proof (J57).
-/
import Derived.Test.YtaeeaniofljmnaaGreatDoorJ57a
namespace Go.Proofs.YtaeeaniofljmnaaGreatDoor
set_option linter.unusedSimpArgs false
set_option linter.unusedVariables false
open Go Go.Proofs.YtaeeaniofljmnaaGreatDoor.Sx
set_option maxRecDepth 100000
theorem c57 {n:Int} {l:List Int} (h:¬ ∀ q,q < l.length→b6 0 l q < n):∃ j,(j < l.length∧b6 0 l j ≥ n)∧∀ q,q < j→b6 0 l q < n:=by
 have key:∀ m:Nat,m≤l.length→(∀ q,q < m→b6 0 l q < n)∨∃ j,(j < l.length∧b6 0 l j ≥ n)∧∀ q,q < j→b6 0 l q < n:=by
  intro m
  induction m with
  | zero=>intro _; exact .inl fun q hq=>by omega
  | succ m ih =>
   intro hm
   rcases ih (by omega) with h1 | h1
   ·by_cases hc:b6 0 l m < n
    ·exact .inl fun q hq=>by
      by_cases e:q=m
      ·subst e; exact hc
      ·exact h1 q (by omega)
    ·exact .inr ⟨m,⟨by omega,by omega⟩,h1⟩
   ·exact .inr h1
 rcases key l.length (z0q _) with h1 | h1
 ·exact absurd h1 h
 ·exact h1
theorem b64 (n:Int) (l:List Int):(a3r n l = -1∧∀ q,q < l.length→b6 0 l q < n)∨∃ j:Nat,a3r n l=j∧j < l.length∧(∀ q,q < j→b6 0 l q < n)∧b6 0 l j ≥ n:=by
 by_cases h:∀ q,q < l.length→b6 0 l q < n
 ·exact .inl ⟨b92 h,h⟩
 ·obtain⟨j,hj1,hj2⟩:=c57 h
  refine .inr ⟨j,?_,hj1.1,hj2,hj1.2⟩
  rw[a3r,c3c hj2 hj1.1 hj1.2]; omega
theorem b91 {n:Int} {r:List Int}:∀ {q:Nat},q≤r.length→(∀ p,p < q→b6 0 r p < n)→s8 n r q=r.take q:=by
 intro q
 induction q with
 | zero=>intro _ _; simp[s8]
 | succ q ih =>
  intro hq h
  rw[s8,decide_eq_true (h q (by omega)),z0f,ih (by omega) fun p hp=>h p (by omega),List.take_succ_eq_append_getElem (by omega),o6 0 r q (by omega)]
theorem a82 {n:Int} {r:List Int} {j p:Nat} (h:(s8 n r j).length≤p):a8c n r j p=b6 0 r p:=by
 unfold a8c
 have:Nat.blt p (s8 n r j).length=false:=by
  cases e:Nat.blt p (s8 n r j).length
  ·rfl
  ·rw[z0u] at e; omega
 rw[this,z0l]
theorem a9m {n:Int} {r:List Int} {j p:Nat} (h:p < (s8 n r j).length):a8c n r j p=b6 0 (s8 n r j) p:=by
 unfold a8c
 have:Nat.blt p (s8 n r j).length=true:=by rw[z0u]; exact h
 rw[this,z0f]
theorem fo71:p8 Tryz.prog 71:=⟨Tryz.f71,Tryz.func71,by kernel_rfl,by kernel_rfl⟩
def q71D (g:Nat→Int) (k:Nat) (n:Int) (x:Nat→Option Addr × Nat):Prop:=p7 (tabD g k n (a57 x [] 2)) Tryz.f71 (delV k) (delM g k n) (d0n g k n)
theorem d86 (g:Nat→Int) (k:Nat) (n:Int) (x:Nat→Option Addr × Nat):q71D g k n x=(
 let a:=mkN g k
 let b:=PLoop.of (c4z g k n (6:Nat) (5:Nat) (0:Nat))
 let c:=a3r n a + (1:Int)
 let d:=a3h g k n
 let e:=(↑k:Int)
 let f:=(0:Int)
 let h:=(0:Nat)
 k=k∧a.length≤(1099511627776:Nat)∧((a3r n a ==(-1:Int))=true→k=d.length∧(k=d.length∧(∀(j:Nat),j < d.length→g j=b6 f d j)∧True)∧n=n∧True)∧((a3r n a ==(-1:Int))=false→∃(x:PUnit),(∃(x:Nat),x≤k∧(IntKind.i64.wrap c=(↑x:Int)∧a3r n a=(↑(s8 n a x).length:Int)∧True)∧(k=k∧(∀(j:Nat),j < k→g j=a8c n a x j)∧True)∧True)∧∀(x_1:Nat),x_1≤k→(decide ((↑x_1:Int) < e)=true→(f≤(↑x_1:Int)∧(↑x_1:Int) < e)∧x_1 < k∧∀(us:List Value),us=us∧((!decide (a8c n a x_1 x_1 ≥ n))=true→(f≤(↑(s8 n a x_1).length:Int)∧(↑(s8 n a x_1).length:Int) < e)∧(s8 n a x_1).length < k∧∃(x_2:Nat),x_2≤k∧(b.ann x).mu x_2 < (b.ann x).mu x_1∧(k=k∧True∧h=h∧IntKind.i64.wrap ((↑(s8 n a x_1).length:Int) + (1:Int))=(↑(s8 n a x_2).length:Int)∧IntKind.i64.wrap ((↑x_1:Int) + (1:Int))=(↑x_2:Int)∧k=k∧True∧a3r n a=a3r n a∧a3r n a=a3r n a∧false=false∧a3r n a=a3r n a∧IntKind.i64.wrap c=IntKind.i64.wrap c∧True)∧(k=k∧(∀(j:Nat),j < k→(bif j.beq (s8 n a x_1).length then a8c n a x_1 x_1 else a8c n a x_1 j)=a8c n a x_2 j)∧True)∧n=n∧eqA h [Col.any]∧True)∧((!decide (a8c n a x_1 x_1 ≥ n))=false→∃(x_2:Nat),x_2≤k∧(b.ann x).mu x_2 < (b.ann x).mu x_1∧(k=k∧True∧h=h∧(↑(s8 n a x_1).length:Int)=(↑(s8 n a x_2).length:Int)∧IntKind.i64.wrap ((↑x_1:Int) + (1:Int))=(↑x_2:Int)∧k=k∧True∧a3r n a=a3r n a∧a3r n a=a3r n a∧false=false∧a3r n a=a3r n a∧IntKind.i64.wrap c=IntKind.i64.wrap c∧True)∧(k=k∧(∀(j:Nat),j < k→a8c n a x_1 j=a8c n a x_2 j)∧True)∧n=n∧eqA h [Col.any]∧True))∧(decide ((↑x_1:Int) < e)=false→k=k∧f≤(↑(s8 n a x_1).length:Int)∧(↑(s8 n a x_1).length:Int)≤e∧(s8 n
 a x_1).length + (k - (s8 n a x_1).length)=k∧k=k∧f≤(↑(s8 n a x_1).length:Int)∧(↑(s8 n a x_1).length:Int)≤e∧(s8 n a x_1).length=d.length∧((s8 n a x_1).length=d.length∧(∀(j:Nat),j < d.length→(bif j.blt (s8 n a x_1).length then a8c n a x_1 j else f)=b6 f d j)∧True)∧n=n∧True))):=by kernel_rfl
theorem v71 (g:Nat→Int) (k:Nat) (n:Int) (x:Nat→Option Addr × Nat) (hk:k≤1099511627776):q71D g k n x:=by
 rw[d86]
 simp only[eq_self,true_and,and_true,z0n,imp_self,l9,m6,n5,g7,g8,PLoop.of,q6,AV.len,g9,z0s,i9,j4,j5,l5,l6,l7,c4z]
 have hl:(mkN g k).length=k:=g8 g k
 have hg:∀ j,j < k→g j=b6 0 (mkN g k) j:=fun j hj=>(v7 0 g hj).symm
 have hR:a3h g k n=s8 n (mkN g k) k:=by rw[a3h,u7,hl]
 rw[hR]
 generalize mkN g k=r at *
 refine⟨hk,fun hf=>?_,fun hf=>?_⟩
 ·rcases b64 n r with⟨_,h1⟩ | ⟨j,h1,_⟩
  ·have e:s8 n r k=r:=by rw[b91 (by omega) fun p hp=>h1 p (by omega),← hl,z3l]
   rw[e]
   exact⟨hl.symm,hl.symm,fun j hj=>hg j (by omega)⟩
  ·rw[h1] at hf
   simp at hf
 ·rcases b64 n r with⟨h1,_⟩ | ⟨j,h1,h2,h3,h4⟩
  ·rw[h1] at hf; cases hf
  rw[h1]
  have ej:s8 n r j=r.take j:=b91 (by omega) h3
  have ej1:s8 n r (j + 1)=r.take j:=by
   have:decide (b6 0 r j < n)=false:=decide_eq_false (by omega)
   rw[s8,this,z0l,ej]
  have lj:(s8 n r (j + 1)).length=j:=by rw[ej1]; simp; omega
  refine⟨(),⟨j + 1,by omega,⟨by rw[a46 (by omega) (by omega)]; omega,by rw[lj]⟩,fun p hp=>?_⟩,fun i hi=>⟨fun hli=>?_,fun hli=>?_⟩⟩
  ·by_cases hpj:p < j
   ·rw[a9m (by omega),ej1,a86 0 hpj,hg p hp]
   ·rw[a82 (by omega),hg p hp]
  ·have hi2:i < k:=by have:=z0e hli; omega
   have hfl:=b2g n r i
   have hw:=wrS (n:=k) hi2 hk
   have hw2:=wrS (n:=k) (i:=(s8 n r i).length) (by omega) hk
   have hd:a8c n r i i=b6 0 r i:=a82 hfl
   rw[hd]
   refine⟨⟨by omega,by omega⟩,hi2,fun hc=>?_,fun hc=>?_⟩
   ·have hc2:decide (b6 0 r i < n)=true:=by simp at hc; simpa using hc
    have e:s8 n r (i + 1)=s8 n r i ++ [b6 0 r i]:=by rw[s8,hc2,z0f]
    have e2:(s8 n r (i + 1)).length=(s8 n r i).length + 1:=by rw[e,z0x]; rfl
    refine⟨⟨by omega,by omega⟩,by omega,i + 1,by omega,by omega,⟨by rw[e2]; exact hw2,hw⟩,fun p hp=>?_⟩
    cases hb:Nat.beq p (s8 n r i).length
    ·have hne:p≠(s8 n r i).length:=fun h=>by rw[h,z2r] at hb; cases hb
     rw[z0l]
     by_cases hlt:p < (s8 n r i).length
     ·rw[a9m hlt,a9m (by omega),e,a5i 0 hlt]
     ·rw[a82 (by omega),a82 (by omega)]
    ·have hpe:=z0b hb
     rw[z0f,hpe,a9m (by omega),e,a6u]
   ·have hc2:decide (b6 0 r i < n)=false:=by simp at hc; simpa using hc
    have e:s8 n r (i + 1)=s8 n r i:=by rw[s8,hc2,z0l]
    exact⟨i + 1,by omega,by omega,⟨by rw[e],hw⟩,fun p _=>by unfold a8c; rw[e]⟩
  ·have hi2:i=k:=by have:=z0i hli; omega
   subst hi2
   have hfl:=b2g n r i
   refine⟨by omega,by omega,by omega,by omega,by omega,rfl,rfl,fun p hp=>?_⟩
   have:Nat.blt p (s8 n r i).length=true:=by rw[z0u]; exact hp
   rw[this,z0f,a9m hp]
theorem b71:CallOkB Tryz.prog GL 71 c7b:=by
 refine b7c Tryz.func71 fo71 fun m vs b h hp=>?_
 unfold c7b at h
 split at h
 ·rename_i r k e
  split at h
  ·rename_i k' g n h1 h2
   cases hn:a5w [r,e] <;> rw[hn] at h
   ·cases h
   simp only[z0f,z0a] at h
   subst h
   have p1:=hp (k=k') (by simp[tB])
   have p2:=hp (k≤1099511627776) (by simp[tB])
   subst p1
   refine⟨tabD g k n [],[r,e],delM g k n,delV k,[],c70 g k n,.sl 0 (a3h g k n).length,_,fun pins=>?_,rfl,rfl,hn,rfl,rfl,fun i k0 hk=>?_,rfl,fun x=>v71 g k n x p2⟩
   ·exact⟨mixed,tys,ints,fun _ _ hf=>m9 (n122 _) t9 _ (v8 hf),fun _ _ hf=>(by cases hf),fun _ _ hf=>a3s ii72 u4 _ (v8 hf),fun _ hf=>by cases hf⟩
   ·rw[u5] at h1 h2
    match i with
    | 0=>cases hk; exact h1
    | 1=>cases hk; exact h2
    | _ + 2=>cases hk
  ·cases h
 ·cases h
theorem b9i {α:Type} (d:α) (l:List α) {k:Nat} (h:k≤l.length):mkN (fun j=>b6 d l j) k=l.take k:=by
 refine List.ext_getElem (by simp; omega) fun j h1 h2=>?_
 have hk:j < k:=by simpa using h1
 rw[← o6 d _ j h1,v7 d _ hk,← o6 d _ j h2,a86 d hk]
theorem e09:p8 Tryz.prog 22:=⟨Tryz.f22,Tryz.func22,by kernel_rfl,by kernel_rfl⟩
def q22D (E:List Ev) (R:List Int) (M:List (List Int)) (n:Int):Prop:=p7 (({ g:=true,calls:=[a52 (nmT E R M),kClE [],kClI []],loops:=[(1,.of (lAl (a3n n R) n.toNat 41)),(3,.of (lF3 M (u7 n) n.toNat 53 11 8 10 12))],takes:=[(1000015,fun _ _=>[.mv 1,.mv 1,.mv 5,.mv 0,.mv 10,.mv 0,.mv 1,.mv 2,.mv 3,.mv 4,.mv 5,.mv 6,.mv 7,.mv 8,.mv 9,.mv 1,.mv 1,.mv 6,.mv 0,.mv 10,.mv 0,.mv 2,.mv 3,.mv 4,.mv 5,.mv 1,.mv 6,.mv 7,.mv 8,.mv 9,.mv 0,.mv 10,.mv 0,.mv 2,.mv 3,.mv 4,.mv 5,.mv 6,.mv 1,.mv 7,.mv 8,.mv 9]),(12,fun _ _=>[.fresh 11 2 23 1,.cols 12 (i4 [])])],sure:=[1000001],cb:=[(71,c7b)] }:Kit2)).tab Tryz.f22 [b24 E R M,.i .i64 n] (grT E R M) ((pfV E R M n).post EL)
theorem d7c (E:List Ev) (R:List Int) (M:List (List Int)) (n:Int):q22D E R M n=(
 let a:=AV.is (mkN (b6 (0:Int) R) n.toNat)
 let b:=f8 (pfK E R M n) (List.take n.toNat E)
 let c:=E.length=E.length∧R.length=R.length∧M.length=M.length
 let d:=(0:Int)
 let e:=decide (n < d) || decide (n > (↑E.length:Int))
 let f:=PLoop.of (lF3 M (u7 n) n.toNat (53:Nat) (11:Nat) (8:Nat) (10:Nat) (12:Nat))
 let g:=f8 (pfK E R M n) (List.map (u7 n) M)
 let h:=f8 (pfK E R M n) (List.take n.toNat R)
 let l:=(1099511627776:Nat)
 let m:=(↑a.len:Int)
 let o:=(↑M.length:Int)
 let p:=(1:Nat)
 let q:=n < d
 let s:=(0:Nat)
 let t:=mkN (b6 d R) n.toNat
 let u:=True∧True∧True
 let v:=(9223372036854775807:Nat)
 let w:=!b8 E R M
 let y:=PLoop.of (lAl (a3n n R) n.toNat (41:Nat))
 let z:=(140737488355328:Nat)
 some tbl=some tbl∧E.length=E.length∧R.length=R.length∧M.length=M.length∧nE E∧nI R∧nR M∧(E.length≤l∧(M.length≤(8:Nat)→∀(r:List Int),List.Mem r M→r.length≤l))∧(w=true→(1:Int)=a5y E R M n∧b.length=s∧h.length=s∧g.length=s)∧(w=false→(e=true→(2:Int)=a5y E R M n∧b.length=s∧h.length=s∧g.length=s)∧(e=false→E.length=E.length∧d≤n∧n≤(↑E.length:Int)∧n.toNat=n.toNat∧(mkN (fun(j:Nat)=>b6 e0 E j) n.toNat).length≤l∧R.length=R.length∧d≤n∧n≤(↑R.length:Int)∧n.toNat=n.toNat∧t.length≤l∧∃(x:PUnit),(∃(x:Nat),(x≤n.toNat∧m8 (a3n n R) x=true)∧(d=(↑x:Int)∧True)∧True)∧∀(x_1:Nat),x_1≤n.toNat∧m8 (a3n n R) x_1=true→(decide ((↑x_1:Int) < m)=true→(d≤(↑x_1:Int)∧(↑x_1:Int) < m)∧x_1 < a.len∧(decide (b6 d t x_1 ≥ n)=true→(30:Int)=a5y E R M n∧b.length=s∧h.length=s∧g.length=s)∧(decide (b6 d t x_1 ≥ n)=false→∃(x_2:Nat),(x_2≤n.toNat∧m8 (a3n n R) x_2=true)∧(y.ann x).mu x_2 < (y.ann x).mu x_1∧(c∧n=n∧True∧True∧True∧True∧false=false∧c∧b8 E R M=b8 E R M∧w =!b8 E R M∧false=false∧n=n∧decide q=decide q∧decide q=decide q∧e=e∧True∧E.length=E.length∧n=n∧n.toNat=n.toNat∧(AV.es (mkN (fun(j:Nat)=>b6 e0 E j) n.toNat)).len=(AV.es (mkN (fun(j:Nat)=>b6 e0 E j) n.toNat)).len∧True∧R.length=R.length∧n=n∧n.toNat=n.toNat∧a.len=a.len∧((AV.es (mkN (fun(j:Nat)=>b6 e0 E j) n.toNat)).len=(AV.es (mkN (fun(j:Nat)=>b6 e0 E j) n.toNat)).len∧a.len=a.len∧True)∧True∧a.len=a.len∧m=m∧IntKind.i64.wrap ((↑x_1:Int) + (1:Int))=(↑x_2:Int)∧True)∧eqT∧eqA E.length (i6 E)∧eqA R.length (f7 R)∧eqA M.length (i4 M)∧c∧n=n∧u∧eqA n.toNat (i6 E)∧eqA (AV.es (mkN
 (fun(j:Nat)=>b6 e0 E j) n.toNat)).len [Col.int IntKind.i64 fun(j:Nat)=>(b6 e0 (mkN (fun(j:Nat)=>b6 e0 E j) n.toNat) j).ag,Col.int IntKind.i64 fun(j:Nat)=>(b6 e0 (mkN (fun(j:Nat)=>b6 e0 E j) n.toNat) j).ix,Col.int IntKind.i64 fun(j:Nat)=>(b6 e0 (mkN (fun(j:Nat)=>b6 e0 E j) n.toNat) j).k,Col.int IntKind.i64 fun(j:Nat)=>(b6 e0 (mkN (fun(j:Nat)=>b6 e0 E j) n.toNat) j).ob,Col.int IntKind.i64 fun(j:Nat)=>(b6 e0 (mkN (fun(j:Nat)=>b6 e0 E j) n.toNat) j).mu,Col.int IntKind.i64 fun(j:Nat)=>(b6 e0 (mkN (fun(j:Nat)=>b6 e0 E j) n.toNat) j).en,Col.int IntKind.i64 fun(j:Nat)=>(b6 e0 (mkN (fun(j:Nat)=>b6 e0 E j) n.toNat) j).od,Col.int IntKind.i64 fun(j:Nat)=>(b6 e0 (mkN (fun(j:Nat)=>b6 e0 E j) n.toNat) j).rd,Col.int IntKind.i64 fun(j:Nat)=>(b6 e0 (mkN (fun(j:Nat)=>b6 e0 E j) n.toNat) j).wr]∧eqA n.toNat (f7 R)∧eqA a.len a.cols∧((AV.es (mkN (fun(j:Nat)=>b6 e0 E j) n.toNat)).len=(AV.es (mkN (fun(j:Nat)=>b6 e0 E j) n.toNat)).len∧a.len=a.len∧True)∧True))∧(decide ((↑x_1:Int) < m)=false→s=s∧∃(x:PUnit),(∃(x:Nat),(x≤M.length∧True)∧(d=(↑x:Int)∧True)∧((AV.es (mkN (fun(j:Nat)=>b6 e0 E j) n.toNat)).len=n.toNat∧a.len=n.toNat∧s=x)∧(s=x∧((∀(j:Nat),j < x→(b6 ([]:List Int) [] j).length=(b6 [] (mpA (u7 n) [] M x) j).length)∧(∀(j:Nat),j < x→∀(i:Nat),i < (b6 [] (mpA (u7 n) [] M x) j).length→b6 d (b6 ([]:List Int) [] j) i=b6 d (b6 [] (mpA (u7 n) [] M x) j) i)∧True)∧True)∧True)∧∀(x_2:Nat),x_2≤M.length∧True→(decide ((↑x_2:Int) < o)=true→(d≤(↑x_2:Int)∧(↑x_2:Int) < o)∧x_2 < M.length∧((b6 [] M x_2).length=(b6 [] M
 x_2).length∧(mkN (fun(i:Nat)=>b6 d (b6 [] M x_2) i) (b6 [] M x_2).length).length≤l∧(AV.is (mkN (fun(i:Nat)=>b6 d (b6 [] M x_2) i) (b6 [] M x_2).length)).len=(AV.is (mkN (fun(i:Nat)=>b6 d (b6 [] M x_2) i) (b6 [] M x_2).length)).len∧(AV.is (mkN (fun(i:Nat)=>b6 d (b6 [] M x_2) i) (b6 [] M x_2).length)).len≤l∧(a3h (b6 d (mkN (fun(i:Nat)=>b6 d (b6 [] M x_2) i) (b6 [] M x_2).length)) (AV.is (mkN (fun(i:Nat)=>b6 d (b6 [] M x_2) i) (b6 [] M x_2).length)).len n).length=(a3h (b6 d (mkN (fun(i:Nat)=>b6 d (b6 [] M x_2) i) (b6 [] M x_2).length)) (AV.is (mkN (fun(i:Nat)=>b6 d (b6 [] M x_2) i) (b6 [] M x_2).length)).len n).length∧x_2=x_2∧p=p∧(x_2 + p) * (24:Nat)≤z∧x_2 + p≤v∧∃(x_3:Nat),(x_3≤M.length∧True)∧(f.ann x).mu x_3 < (f.ann x).mu x_2∧(c∧n=n∧True∧True∧True∧True∧false=false∧c∧b8 E R M=b8 E R M∧w =!b8 E R M∧false=false∧n=n∧decide q=decide q∧decide q=decide q∧e=e∧True∧E.length=E.length∧n=n∧n.toNat=n.toNat∧(AV.es (mkN (fun(j:Nat)=>b6 e0 E j) n.toNat)).len=(AV.es (mkN (fun(j:Nat)=>b6 e0 E j) n.toNat)).len∧True∧R.length=R.length∧n=n∧n.toNat=n.toNat∧a.len=a.len∧((AV.es (mkN (fun(j:Nat)=>b6 e0 E j) n.toNat)).len=(AV.es (mkN (fun(j:Nat)=>b6 e0 E j) n.toNat)).len∧a.len=a.len∧True)∧True∧a.len=a.len∧m=m∧(↑x_1:Int)=(↑x_1:Int)∧false=false∧True∧M.length=M.length∧o=o∧IntKind.i64.wrap ((↑x_2:Int) + (1:Int))=(↑x_3:Int)∧True)∧eqT∧eqA E.length (i6 E)∧eqA R.length (f7 R)∧eqA M.length (i4 M)∧c∧n=n∧u∧eqA n.toNat (i6 E)∧eqA (AV.es (mkN (fun(j:Nat)=>b6 e0 E j) n.toNat)).len [Col.int IntKind.i64
 fun(j:Nat)=>(b6 e0 (mkN (fun(j:Nat)=>b6 e0 E j) n.toNat) j).ag,Col.int IntKind.i64 fun(j:Nat)=>(b6 e0 (mkN (fun(j:Nat)=>b6 e0 E j) n.toNat) j).ix,Col.int IntKind.i64 fun(j:Nat)=>(b6 e0 (mkN (fun(j:Nat)=>b6 e0 E j) n.toNat) j).k,Col.int IntKind.i64 fun(j:Nat)=>(b6 e0 (mkN (fun(j:Nat)=>b6 e0 E j) n.toNat) j).ob,Col.int IntKind.i64 fun(j:Nat)=>(b6 e0 (mkN (fun(j:Nat)=>b6 e0 E j) n.toNat) j).mu,Col.int IntKind.i64 fun(j:Nat)=>(b6 e0 (mkN (fun(j:Nat)=>b6 e0 E j) n.toNat) j).en,Col.int IntKind.i64 fun(j:Nat)=>(b6 e0 (mkN (fun(j:Nat)=>b6 e0 E j) n.toNat) j).od,Col.int IntKind.i64 fun(j:Nat)=>(b6 e0 (mkN (fun(j:Nat)=>b6 e0 E j) n.toNat) j).rd,Col.int IntKind.i64 fun(j:Nat)=>(b6 e0 (mkN (fun(j:Nat)=>b6 e0 E j) n.toNat) j).wr]∧eqA n.toNat (f7 R)∧eqA a.len a.cols∧(n.toNat=n.toNat∧n.toNat=n.toNat∧x_2 + p=x_3)∧(x_2 + p=x_3∧((∀(j:Nat),j < x_3→(bif j.blt x_2 then(b6 [] (mpA (u7 n) [] M x_2) j).length else(a3h (b6 d (mkN (fun(i:Nat)=>b6 d (b6 [] M x_2) i) (b6 [] M x_2).length)) (AV.is (mkN (fun(i:Nat)=>b6 d (b6 [] M x_2) i) (b6 [] M x_2).length)).len n).length)=(b6 [] (mpA (u7 n) [] M x_3) j).length)∧(∀(j:Nat),j < x_3→∀(i:Nat),i < (b6 [] (mpA (u7 n) [] M x_3) j).length→(bif j.blt x_2 then fun(i:Nat)=>b6 d (b6 [] (mpA (u7 n) [] M x_2) j) i else b6 d (a3h (b6 d (mkN (fun(i:Nat)=>b6 d (b6 [] M x_2) i) (b6 [] M x_2).length)) (AV.is (mkN (fun(i:Nat)=>b6 d (b6 [] M x_2) i) (b6 [] M x_2).length)).len n)) i=b6 d (b6 [] (mpA (u7 n) [] M x_3) j) i)∧True)∧True)∧True)∧((b6 [] M x_2).length=(b6 [] M
 x_2).length∧(mkN (fun(i:Nat)=>b6 d (b6 [] M x_2) i) (b6 [] M x_2).length).length≤l∧(AV.is (mkN (fun(i:Nat)=>b6 d (b6 [] M x_2) i) (b6 [] M x_2).length)).len=(AV.is (mkN (fun(i:Nat)=>b6 d (b6 [] M x_2) i) (b6 [] M x_2).length)).len∧(AV.is (mkN (fun(i:Nat)=>b6 d (b6 [] M x_2) i) (b6 [] M x_2).length)).len≤l∧(a3h (b6 d (mkN (fun(i:Nat)=>b6 d (b6 [] M x_2) i) (b6 [] M x_2).length)) (AV.is (mkN (fun(i:Nat)=>b6 d (b6 [] M x_2) i) (b6 [] M x_2).length)).len n).length=(a3h (b6 d (mkN (fun(i:Nat)=>b6 d (b6 [] M x_2) i) (b6 [] M x_2).length)) (AV.is (mkN (fun(i:Nat)=>b6 d (b6 [] M x_2) i) (b6 [] M x_2).length)).len n).length∧x_2=x_2∧p=p∧(x_2 + p) * (24:Nat)≤z∧x_2 + p≤v∧∃(x_3:Nat),(x_3≤M.length∧True)∧(f.ann x).mu x_3 < (f.ann x).mu x_2∧(c∧n=n∧True∧True∧True∧True∧false=false∧c∧b8 E R M=b8 E R M∧w =!b8 E R M∧false=false∧n=n∧decide q=decide q∧decide q=decide q∧e=e∧True∧E.length=E.length∧n=n∧n.toNat=n.toNat∧(AV.es (mkN (fun(j:Nat)=>b6 e0 E j) n.toNat)).len=(AV.es (mkN (fun(j:Nat)=>b6 e0 E j) n.toNat)).len∧True∧R.length=R.length∧n=n∧n.toNat=n.toNat∧a.len=a.len∧((AV.es (mkN (fun(j:Nat)=>b6 e0 E j) n.toNat)).len=(AV.es (mkN (fun(j:Nat)=>b6 e0 E j) n.toNat)).len∧a.len=a.len∧True)∧True∧a.len=a.len∧m=m∧(↑x_1:Int)=(↑x_1:Int)∧false=false∧True∧M.length=M.length∧o=o∧IntKind.i64.wrap ((↑x_2:Int) + (1:Int))=(↑x_3:Int)∧True)∧eqT∧eqA E.length (i6 E)∧eqA R.length (f7 R)∧eqA M.length (i4 M)∧c∧n=n∧u∧eqA n.toNat (i6 E)∧eqA (AV.es (mkN (fun(j:Nat)=>b6 e0 E j) n.toNat)).len [Col.int IntKind.i64
 fun(j:Nat)=>(b6 e0 (mkN (fun(j:Nat)=>b6 e0 E j) n.toNat) j).ag,Col.int IntKind.i64 fun(j:Nat)=>(b6 e0 (mkN (fun(j:Nat)=>b6 e0 E j) n.toNat) j).ix,Col.int IntKind.i64 fun(j:Nat)=>(b6 e0 (mkN (fun(j:Nat)=>b6 e0 E j) n.toNat) j).k,Col.int IntKind.i64 fun(j:Nat)=>(b6 e0 (mkN (fun(j:Nat)=>b6 e0 E j) n.toNat) j).ob,Col.int IntKind.i64 fun(j:Nat)=>(b6 e0 (mkN (fun(j:Nat)=>b6 e0 E j) n.toNat) j).mu,Col.int IntKind.i64 fun(j:Nat)=>(b6 e0 (mkN (fun(j:Nat)=>b6 e0 E j) n.toNat) j).en,Col.int IntKind.i64 fun(j:Nat)=>(b6 e0 (mkN (fun(j:Nat)=>b6 e0 E j) n.toNat) j).od,Col.int IntKind.i64 fun(j:Nat)=>(b6 e0 (mkN (fun(j:Nat)=>b6 e0 E j) n.toNat) j).rd,Col.int IntKind.i64 fun(j:Nat)=>(b6 e0 (mkN (fun(j:Nat)=>b6 e0 E j) n.toNat) j).wr]∧eqA n.toNat (f7 R)∧eqA a.len a.cols∧(n.toNat=n.toNat∧n.toNat=n.toNat∧x_2 + p=x_3)∧(x_2 + p=x_3∧((∀(j:Nat),j < x_3→(bif j.blt x_2 then(b6 [] (mpA (u7 n) [] M x_2) j).length else(a3h (b6 d (mkN (fun(i:Nat)=>b6 d (b6 [] M x_2) i) (b6 [] M x_2).length)) (AV.is (mkN (fun(i:Nat)=>b6 d (b6 [] M x_2) i) (b6 [] M x_2).length)).len n).length)=(b6 [] (mpA (u7 n) [] M x_3) j).length)∧(∀(j:Nat),j < x_3→∀(i:Nat),i < (b6 [] (mpA (u7 n) [] M x_3) j).length→(bif j.blt x_2 then fun(i:Nat)=>b6 d (b6 [] (mpA (u7 n) [] M x_2) j) i else b6 d (a3h (b6 d (mkN (fun(i:Nat)=>b6 d (b6 [] M x_2) i) (b6 [] M x_2).length)) (AV.is (mkN (fun(i:Nat)=>b6 d (b6 [] M x_2) i) (b6 [] M x_2).length)).len n)) i=b6 d (b6 [] (mpA (u7 n) [] M x_3) j) i)∧True)∧True)∧True)∧(b6 [] M x_2).length=(b6 [] M
 x_2).length∧(mkN (fun(i:Nat)=>b6 d (b6 [] M x_2) i) (b6 [] M x_2).length).length≤l∧(AV.is (mkN (fun(i:Nat)=>b6 d (b6 [] M x_2) i) (b6 [] M x_2).length)).len=(AV.is (mkN (fun(i:Nat)=>b6 d (b6 [] M x_2) i) (b6 [] M x_2).length)).len∧(AV.is (mkN (fun(i:Nat)=>b6 d (b6 [] M x_2) i) (b6 [] M x_2).length)).len≤l∧(a3h (b6 d (mkN (fun(i:Nat)=>b6 d (b6 [] M x_2) i) (b6 [] M x_2).length)) (AV.is (mkN (fun(i:Nat)=>b6 d (b6 [] M x_2) i) (b6 [] M x_2).length)).len n).length=(a3h (b6 d (mkN (fun(i:Nat)=>b6 d (b6 [] M x_2) i) (b6 [] M x_2).length)) (AV.is (mkN (fun(i:Nat)=>b6 d (b6 [] M x_2) i) (b6 [] M x_2).length)).len n).length∧x_2=x_2∧p=p∧(x_2 + p) * (24:Nat)≤z∧x_2 + p≤v∧∃(x_3:Nat),(x_3≤M.length∧True)∧(f.ann x).mu x_3 < (f.ann x).mu x_2∧(c∧n=n∧True∧True∧True∧True∧false=false∧c∧b8 E R M=b8 E R M∧w =!b8 E R M∧false=false∧n=n∧decide q=decide q∧decide q=decide q∧e=e∧True∧E.length=E.length∧n=n∧n.toNat=n.toNat∧(AV.es (mkN (fun(j:Nat)=>b6 e0 E j) n.toNat)).len=(AV.es (mkN (fun(j:Nat)=>b6 e0 E j) n.toNat)).len∧True∧R.length=R.length∧n=n∧n.toNat=n.toNat∧a.len=a.len∧((AV.es (mkN (fun(j:Nat)=>b6 e0 E j) n.toNat)).len=(AV.es (mkN (fun(j:Nat)=>b6 e0 E j) n.toNat)).len∧a.len=a.len∧True)∧True∧a.len=a.len∧m=m∧(↑x_1:Int)=(↑x_1:Int)∧false=false∧True∧M.length=M.length∧o=o∧IntKind.i64.wrap ((↑x_2:Int) + (1:Int))=(↑x_3:Int)∧True)∧eqT∧eqA E.length (i6 E)∧eqA R.length (f7 R)∧eqA M.length (i4 M)∧c∧n=n∧u∧eqA n.toNat (i6 E)∧eqA (AV.es (mkN (fun(j:Nat)=>b6 e0 E j) n.toNat)).len [Col.int IntKind.i64
 fun(j:Nat)=>(b6 e0 (mkN (fun(j:Nat)=>b6 e0 E j) n.toNat) j).ag,Col.int IntKind.i64 fun(j:Nat)=>(b6 e0 (mkN (fun(j:Nat)=>b6 e0 E j) n.toNat) j).ix,Col.int IntKind.i64 fun(j:Nat)=>(b6 e0 (mkN (fun(j:Nat)=>b6 e0 E j) n.toNat) j).k,Col.int IntKind.i64 fun(j:Nat)=>(b6 e0 (mkN (fun(j:Nat)=>b6 e0 E j) n.toNat) j).ob,Col.int IntKind.i64 fun(j:Nat)=>(b6 e0 (mkN (fun(j:Nat)=>b6 e0 E j) n.toNat) j).mu,Col.int IntKind.i64 fun(j:Nat)=>(b6 e0 (mkN (fun(j:Nat)=>b6 e0 E j) n.toNat) j).en,Col.int IntKind.i64 fun(j:Nat)=>(b6 e0 (mkN (fun(j:Nat)=>b6 e0 E j) n.toNat) j).od,Col.int IntKind.i64 fun(j:Nat)=>(b6 e0 (mkN (fun(j:Nat)=>b6 e0 E j) n.toNat) j).rd,Col.int IntKind.i64 fun(j:Nat)=>(b6 e0 (mkN (fun(j:Nat)=>b6 e0 E j) n.toNat) j).wr]∧eqA n.toNat (f7 R)∧eqA a.len a.cols∧(n.toNat=n.toNat∧n.toNat=n.toNat∧x_2 + p=x_3)∧(x_2 + p=x_3∧((∀(j:Nat),j < x_3→(bif j.blt x_2 then(b6 [] (mpA (u7 n) [] M x_2) j).length else(a3h (b6 d (mkN (fun(i:Nat)=>b6 d (b6 [] M x_2) i) (b6 [] M x_2).length)) (AV.is (mkN (fun(i:Nat)=>b6 d (b6 [] M x_2) i) (b6 [] M x_2).length)).len n).length)=(b6 [] (mpA (u7 n) [] M x_3) j).length)∧(∀(j:Nat),j < x_3→∀(i:Nat),i < (b6 [] (mpA (u7 n) [] M x_3) j).length→(bif j.blt x_2 then fun(i:Nat)=>b6 d (b6 [] (mpA (u7 n) [] M x_2) j) i else b6 d (a3h (b6 d (mkN (fun(i:Nat)=>b6 d (b6 [] M x_2) i) (b6 [] M x_2).length)) (AV.is (mkN (fun(i:Nat)=>b6 d (b6 [] M x_2) i) (b6 [] M x_2).length)).len n)) i=b6 d (b6 [] (mpA (u7 n) [] M x_3) j) i)∧True)∧True)∧True)∧(decide ((↑x_2:Int) <
 o)=false→d=a5y E R M n∧(n.toNat=b.length∧(AV.es (mkN (fun(j:Nat)=>b6 e0 E j) n.toNat)).len=b.length∧(∀(j:Nat),j < b.length→(b6 e0 (mkN (fun(j:Nat)=>b6 e0 E j) n.toNat) j).ag=(b6 e0 b j).ag)∧(∀(j:Nat),j < b.length→(b6 e0 (mkN (fun(j:Nat)=>b6 e0 E j) n.toNat) j).ix=(b6 e0 b j).ix)∧(∀(j:Nat),j < b.length→(b6 e0 (mkN (fun(j:Nat)=>b6 e0 E j) n.toNat) j).k=(b6 e0 b j).k)∧(∀(j:Nat),j < b.length→(b6 e0 (mkN (fun(j:Nat)=>b6 e0 E j) n.toNat) j).ob=(b6 e0 b j).ob)∧(∀(j:Nat),j < b.length→(b6 e0 (mkN (fun(j:Nat)=>b6 e0 E j) n.toNat) j).mu=(b6 e0 b j).mu)∧(∀(j:Nat),j < b.length→(b6 e0 (mkN (fun(j:Nat)=>b6 e0 E j) n.toNat) j).en=(b6 e0 b j).en)∧(∀(j:Nat),j < b.length→(b6 e0 (mkN (fun(j:Nat)=>b6 e0 E j) n.toNat) j).od=(b6 e0 b j).od)∧(∀(j:Nat),j < b.length→(b6 e0 (mkN (fun(j:Nat)=>b6 e0 E j) n.toNat) j).rd=(b6 e0 b j).rd)∧(∀(j:Nat),j < b.length→(b6 e0 (mkN (fun(j:Nat)=>b6 e0 E j) n.toNat) j).wr=(b6 e0 b j).wr)∧True)∧(n.toNat=h.length∧a.len=h.length∧(∀(j:Nat),j < h.length→b6 d t j=b6 d h j)∧True)∧x_2=g.length∧x_2=g.length∧((∀(j:Nat),j < g.length→(b6 [] (mpA (u7 n) [] M x_2) j).length=(b6 [] g j).length)∧(∀(j:Nat),j < g.length→∀(i:Nat),i < (b6 [] g j).length→b6 d (b6 [] (mpA (u7 n) [] M x_2) j) i=b6 d (b6 [] g j) i)∧True)∧True))))):=by kernel_rfl
theorem v22 (E:List Ev) (R:List Int) (M:List (List Int)) (n:Int) (h:SzG E M):q22D E R M n:=by
 rw[d7c]
 simp only[eq_self,true_and,and_true,z0n,imp_self,l9,m6,n5,g7,g8,PLoop.of,q6,AV.len,g9,z0s,i9,j4,j5,l5,l6,l7,lAl,lF3]
 refine⟨⟨h.1,h.2⟩,fun hv=>?_,fun hv=>⟨fun hc=>?_,fun hc=>?_⟩⟩
 ·simp[a5y,pfK,hv,f8]
 ·rw[z2w] at hv
  have:a5y E R M n=2:=by simp only[a5y,hv,hc,z2p,z0l,z0f]
  simp[this,pfK,f8]
 rw[z2w] at hv
 obtain⟨hG,hN⟩:=a06 hv h
 obtain⟨hM,hR⟩:=a1a hv
 simp only[z1k,z1g] at hc
 have hrow:∀ o,o < M.length→(b6 [] M o).length≤1099511627776:=fun o ho=>h.2 hM _ (by rw[o6 [] M _ ho]; exact z1r ho)
 have hE:=d45 E R M n h hv (by omega) (by omega)
 have hnR:∀ j,j < n.toNat→b6 0 (mkN (b6 0 R) n.toNat) j=b6 0 R j:=fun j hj=>v7 0 _ hj
 refine⟨by omega,by omega,by omega,by omega,by omega,by omega,(),⟨0,⟨by omega,rfl⟩,rfl⟩,fun j hj=>⟨fun hlj=>?_,fun hlj=>?_⟩⟩
 ·have hj2:j < n.toNat:=by have:=z0e hlj; omega
  rw[hnR j hj2]
  refine⟨⟨by omega,by omega⟩,hj2,fun hd=>?_,fun hd=>⟨j + 1,⟨by omega,?_⟩,by omega,wrS (n:=n.toNat) hj2 (by omega)⟩⟩
  ·have ha:m8 (a3n n R) n.toNat=false:=a0r hj2 (by rw[a3n,inA,z1m]; have:=z0e hd; exact decide_eq_false (by omega))
   rw[ha] at hE
   simp[hE,pfK,f8]
  ·have:=z0i hd
   rw[m8,hj.2,z1h,a3n,inA,z1m]
   exact decide_eq_true (by omega)
 have hj2:j=n.toNat:=by have:=z0i hlj; omega
 have ha:m8 (a3n n R) n.toNat=true:=by rw[← hj2]; exact hj.2
 rw[ha] at hE
 have hK:pfK E R M n=true:=by rw[pfK,hE]; rfl
 refine⟨(),⟨0,by simp⟩,fun o ho=>⟨fun hlo=>?_,fun hlo=>?_⟩⟩
 ·have ho2:o < M.length:=by have:=z0e hlo; omega
  have hro:=hrow o ho2
  have hdr:a3h (b6 0 (b6 [] M o)) (b6 [] M o).length n=u7 n (b6 [] M o):=by rw[a3h,g7]
  rw[hdr]
  have key:(b6 [] M o).length≤1099511627776∧(b6 [] M o).length≤1099511627776∧(o + 1) * 24≤140737488355328∧o + 1≤9223372036854775807∧∃ x,x≤M.length∧M.length - x < M.length - o∧IntKind.i64.wrap ((o:Int) + 1)=(x:Int)∧o + 1=x∧o + 1=x∧(∀(j:Nat),j < x→(bif j.blt o then(b6 [] (mpA (u7 n) [] M o) j).length else(u7 n (b6 [] M o)).length)=(b6 [] (mpA (u7 n) [] M x) j).length)∧∀(j:Nat),j < x→∀(i:Nat),i < (b6 [] (mpA (u7 n) [] M x) j).length→(bif j.blt o then fun i=>b6 0 (b6 [] (mpA (u7 n) [] M o) j) i else b6 0 (u7 n (b6 [] M o))) i=b6 0 (b6 [] (mpA (u7 n) [] M x) j) i:=by
   refine⟨hro,hro,by omega,by omega,o + 1,by omega,by omega,wrS (n:=M.length) ho2 (by omega),rfl,rfl,fun j hj=>?_,fun j hj i _=>?_⟩
   ·cases hb:Nat.blt j o
    ·obtain rfl:=a51 hb hj
     rw[z0l,a9z]
    ·rw[z0f,b00 (by rwa [z0u] at hb)]
   ·cases hb:Nat.blt j o
    ·obtain rfl:=a51 hb hj
     rw[z0l,a9z]
    ·rw[z0f,b00 (by rwa [z0u] at hb)]
  exact⟨⟨by omega,by omega⟩,ho2,key,key,key⟩
 have ho2:o=M.length:=by have:=z0i hlo; omega
 subst ho2
 have e1:mkN (fun j=>b6 e0 E j) n.toNat=E.take n.toNat:=b9i e0 E (by omega)
 have e2:mkN (b6 0 R) n.toNat=R.take n.toNat:=b9i 0 R (by omega)
 simp only[hE,hK,f8,z0f,a49,e1,e2]
 have l1:(E.take n.toNat).length=n.toNat:=by simp; omega
 have l2:(R.take n.toNat).length=n.toNat:=by simp; omega
 simp only[l1,l2,z2s,z0n,and_true,true_and,and_self]
theorem n22 (nm:List (Option AV)):CallOk Tryz.prog GL 22 (o5 EL gbT nm [PG,.lf .i] c67):=e0k Tryz.func22 e09 fun av pre rv h=>by
 unfold c67 at h; split at h <;> cases h
 exact⟨⟨rfl,fun t a e=>by cases e <;> exact z0h _ _⟩,fun hp=>⟨_,v22 _ _ _ _ (hp _ (.head _)),rfl,(m9 (n33 _) (m9 (a1o (n69 _)) (m9 (a1o (n70 _)) t9))),u4,d8t b71⟩⟩
end Go.Proofs.YtaeeaniofljmnaaGreatDoor

/-
  A part of the proof (H14).
-/
import Derived.Test.YtaeeaniofljmnaaGreatDoorH8
import Derived.Test.YtaeeaniofljmnaaGreatDoorTx19
namespace Go.Proofs.YtaeeaniofljmnaaGreatDoor
set_option linter.unusedSimpArgs false
set_option linter.unusedVariables false
open Go Go.Proofs.YtaeeaniofljmnaaGreatDoor.Sx
set_option maxRecDepth 100000
def a2c (ps:List (Nat × (Option Addr × Nat))):Tab:=⟨a7g,[],[],[],[],ps,[],[],[],none,false⟩
theorem b0s (ps:List (Nat × (Option Addr × Nat))):TabOk Tryz.prog (a2c ps):=⟨mixed,tys,ints,fun _ _ hf=>(by cases hf),fun _ _ hf=>(by cases hf),fun _ _ hf=>(by cases hf),fun _ hf=>by cases hf⟩
def c2w (g k:Nat) (cx cy:List SV):SV→List MBlk→Prop:=fun sv m=>sv=.fn g [.ptr (x9 k).length 0,.ptr (x9 k ++ [MBlk.cells cx]).length 0]∧m=x9 k ++ [MBlk.cells cx] ++ [MBlk.cells cy]
theorem d6w:o6 Tryz.prog 105:=⟨Tryz.f105,Tryz.func105,by kernel_rfl,by kernel_rfl⟩
theorem d0y (cs:List SV) (f:Nat) (ys:List SV) (k:Nat) (ps:List (Nat × (Option Addr × Nat))):n7 (a2c ps) Tryz.f105 [.agg cs,.fn f ys] (x9 k) (c2w 144 k cs [.fn f ys])=(SV.fn 144 [.ptr (x9 k).length 0,.ptr (x9 k ++ [MBlk.cells cs]).length 0]=SV.fn 144 [.ptr (x9 k).length 0,.ptr (x9 k ++ [MBlk.cells cs]).length 0]∧x9 k ++ [MBlk.cells cs] ++ [MBlk.cells [.fn f ys]]=x9 k ++ [MBlk.cells cs] ++ [MBlk.cells [.fn f ys]]):=by kernel_rfl
theorem b105 (cs:List SV) (f:Nat) (ys:List SV):c1r a2c Tryz.f105 144 (.agg cs) (.fn f ys) cs [.fn f ys]:=fun k ps=>by
 have h:n7 (a2c ps) Tryz.f105 [.agg cs,.fn f ys] (x9 k) (c2w 144 k cs [.fn f ys]):=by rw[d0y]; exact⟨rfl,rfl⟩
 exact h
def b68:List MBlk→List SV→Option AR
 | m,[.agg cs,.fn f ys]=>bif ltL cs m.length && ltL ys m.length then some ⟨[],.fn 144 [.ptr m.length 0,.ptr (m.length + 1) 0],[.cells cs,.cells [.fn f ys]]⟩ else none
 | _,_=>none
theorem c9k {G:List (Nat × Nat)}:CallOk Tryz.prog G 105 b68:=by
 refine c5f (g:=144) a2c b0s (fun ps=>⟨rfl,rfl⟩) Tryz.func105 d6w fun m vs ar h=>?_
 unfold b68 at h
 split at h
 ·rename_i cs f ys
  cases hc:(ltL cs m.length && ltL ys m.length)
  ·rw[hc] at h; cases h
  ·rw[hc] at h
   cases h
   simp only[z0d] at hc
   exact⟨_,_,_,_,rfl,(by simp only[ltL,SV.ltB,z1w,z0d]; exact hc),.agg _,.fn _ _,rfl,b105 cs f ys⟩
 ·cases h
theorem fo57:o6 Tryz.prog 57:=⟨Tryz.f57,Tryz.func57,by kernel_rfl,by kernel_rfl⟩
theorem d5y (cs:List SV) (f:Nat) (ys:List SV) (k:Nat) (ps:List (Nat × (Option Addr × Nat))):n7 (a2c ps) Tryz.f57 [.agg cs,.fn f ys] (x9 k) (c2w 112 k cs [.fn f ys])=(SV.fn 112 [.ptr (x9 k).length 0,.ptr (x9 k ++ [MBlk.cells cs]).length 0]=SV.fn 112 [.ptr (x9 k).length 0,.ptr (x9 k ++ [MBlk.cells cs]).length 0]∧x9 k ++ [MBlk.cells cs] ++ [MBlk.cells [.fn f ys]]=x9 k ++ [MBlk.cells cs] ++ [MBlk.cells [.fn f ys]]):=by kernel_rfl
theorem b57 (cs:List SV) (f:Nat) (ys:List SV):c1r a2c Tryz.f57 112 (.agg cs) (.fn f ys) cs [.fn f ys]:=fun k ps=>by
 have h:n7 (a2c ps) Tryz.f57 [.agg cs,.fn f ys] (x9 k) (c2w 112 k cs [.fn f ys]):=by rw[d5y]; exact⟨rfl,rfl⟩
 exact h
def c05:List MBlk→List SV→Option AR
 | m,[.agg cs,.fn f ys]=>bif ltL cs m.length && ltL ys m.length then some ⟨[],.fn 112 [.ptr m.length 0,.ptr (m.length + 1) 0],[.cells cs,.cells [.fn f ys]]⟩ else none
 | _,_=>none
theorem n57 {G:List (Nat × Nat)}:CallOk Tryz.prog G 57 c05:=by
 refine c5f (g:=112) a2c b0s (fun ps=>⟨rfl,rfl⟩) Tryz.func57 fo57 fun m vs ar h=>?_
 unfold c05 at h
 split at h
 ·rename_i cs f ys
  cases hc:(ltL cs m.length && ltL ys m.length)
  ·rw[hc] at h; cases h
  ·rw[hc] at h
   cases h
   simp only[z0d] at hc
   exact⟨_,_,_,_,rfl,(by simp only[ltL,SV.ltB,z1w,z0d]; exact hc),.agg _,.fn _ _,rfl,b57 cs f ys⟩
 ·cases h
theorem d6z:o6 Tryz.prog 108:=⟨Tryz.f108,Tryz.func108,by kernel_rfl,by kernel_rfl⟩
theorem d10 (cs:List SV) (n:Int) (k:Nat) (ps:List (Nat × (Option Addr × Nat))):n7 (a2c ps) Tryz.f108 [.agg cs,.i .i64 n] (x9 k) (c2w 146 k cs [.i .i64 n])=(SV.fn 146 [.ptr (x9 k).length 0,.ptr (x9 k ++ [MBlk.cells cs]).length 0]=SV.fn 146 [.ptr (x9 k).length 0,.ptr (x9 k ++ [MBlk.cells cs]).length 0]∧x9 k ++ [MBlk.cells cs] ++ [MBlk.cells [.i .i64 n]]=x9 k ++ [MBlk.cells cs] ++ [MBlk.cells [.i .i64 n]]):=by kernel_rfl
theorem b108 (cs:List SV) (n:Int):c1r a2c Tryz.f108 146 (.agg cs) (.i .i64 n) cs [.i .i64 n]:=fun k ps=>by
 have h:n7 (a2c ps) Tryz.f108 [.agg cs,.i .i64 n] (x9 k) (c2w 146 k cs [.i .i64 n]):=by rw[d10]; exact⟨rfl,rfl⟩
 exact h
def b69:List MBlk→List SV→Option AR
 | m,[.agg cs,.i .i64 n]=>bif ltL cs m.length then some ⟨[],.fn 146 [.ptr m.length 0,.ptr (m.length + 1) 0],[.cells cs,.cells [.i .i64 n]]⟩ else none
 | _,_=>none
theorem n108 {G:List (Nat × Nat)}:CallOk Tryz.prog G 108 b69:=by
 refine c5f (g:=146) a2c b0s (fun ps=>⟨rfl,rfl⟩) Tryz.func108 d6z fun m vs ar h=>?_
 unfold b69 at h
 split at h
 ·rename_i cs n
  cases hc:(ltL cs m.length)
  ·rw[hc] at h; cases h
  ·rw[hc] at h
   cases h
   skip
   exact⟨_,_,_,_,rfl,(by simp only[ltL,SV.ltB,z1w,z0d]; exact hc),.agg _,.i _ _,rfl,b108 cs n⟩
 ·cases h
def grV (E:List Ev) (R:List Int) (M:List (List Int)):SV:=.agg [.sl 0 E.length,.sl 1 R.length,.sl 2 M.length]
def grM (E:List Ev) (R:List Int) (M:List (List Int)):List MBlk:=[.arr E.length (l5 E),.arr R.length (j5 R),.arr M.length (j9 M)]
def evA (E:List Ev) (i:Int):Ev:=b6 e0 E i.toNat
def inA (R:List Int) (i:Int):Int:=b6 0 R i.toNat
def poB (a b:Ev) (i k:Int):Bool:=(a.ag == b.ag && decide (i < k)) || (a.k == 16 && (a.ob == b.ag || (b.k == 17 && a.ob == b.ob))) || (b.k == 17 && b.ob == a.ag)
def poF (E:List Ev):Pf:=fun i k=>poB (evA E i) (evA E k) i k
def rfF (R:List Int):Pf:=fun i k=>inA R k == i
def a5a (n:Nat) (f:Pf) (t c e:Nat):LAnn:=p9 n t (fun _=>True) (fun a=>[(c,.cells [.i .i64 (n:Int),.sl e (b9 f n a).length]),b8v e (b9 f n a)]) [e]
def a3l (n:Nat) (f:Pf) (t c e:Nat):PLoop:=⟨Nat,fun a=>p9 n t (fun _=>a < n) (fun b=>[(c,.cells [.i .i64 (n:Int),.sl e (b9 f n a ++ d7 f a b).length]),b8v e (b9 f n a ++ d7 f a b)]) [e]⟩
abbrev SpG:=List PV→Option (List Prop × QV)
def a9m (N:Int) (l:List Pq):QV:=.rv (.sl (b3q N) (.ps l))
def PG:PK:=.ag [.es,.is,.rs]
noncomputable def c92 (c:Nat):Nat × Inl:=(56,{ fn:=Tryz.f56,takes:=[(2,fun _ _=>[.fresh c 1 67 2])] })
noncomputable def allI (n:Nat) (f:Pf) (c e:Nat):Nat × Inl:=(144,{ fn:=Tryz.f144,loops:=[(0,.of (a5a n f 9 c e)),(2,a3l n f 15 c e)] })
def no (n:Nat):List (Option AV):=a12 n none
def c97:Nat × (List MBlk→List SV→Option AR):=(105,b68)
def b06 (E:List Ev) (i k:Int):Prop:=(0≤i∧i < E.length)∧(0≤k∧k < E.length)
abbrev GF:=List Ev→List Int→List (List Int)→Pf
abbrev GP:=List Ev→List Int→List (List Int)→Int→Int→Prop
def b9a (pc:GP) (fn:GF):SpG:=fun
 | [.lf (.i i),.lf (.i k),.bx [.es E,.is R,.rs M]]=>some ([pc E R M i k],.rv (.pl (.b (fn E R M i k))))
 | _=>none
def pcE:GP:=fun E _ _ i k=>b06 E i k
def pcR:GP:=fun E R _ i k=>b06 E i k∧R.length=E.length
def nmG (E:List Ev) (R:List Int) (M:List (List Int)):List (Option AV):=[some (.es E),some (.is R),some (.rs M)]
def PH:List PK:=[.lf .i,.lf .i,.bx [.es,.is,.rs]]
def boxG (E:List Ev) (R:List Int) (M:List (List Int)):List MBlk:=[.old [.sl 1 E.length,.sl 2 R.length,.sl 3 M.length],.arr E.length (l5 E),.arr R.length (j5 R),.arr M.length (j9 M)]
def d2e (n:Nat) (pc:GP) (fn:GF) (nm:List (Option AV)):Nat × (List MBlk→List SV→Option AR):=(n,n6 EL none nm PH (b9a pc fn))
theorem a0l {i:Int} {n:Nat} (h:0≤i∧i < n):i.toNat < n:=by omega
def poG:GF:=fun E _ _=>poF E
def rfG:GF:=fun _ R _=>rfF R
theorem d72:o6 Tryz.prog 111:=⟨Tryz.f111,Tryz.func111,by kernel_rfl,by kernel_rfl⟩
theorem d76:o6 Tryz.prog 117:=⟨Tryz.f117,Tryz.func117,by kernel_rfl,by kernel_rfl⟩
def d2j (i k:Int) (E:List Ev) (R:List Int) (M:List (List Int)):Prop:=n7 (({}:Kit)).tab Tryz.f111 [.i .i64 i,.i .i64 k,.ptr 0 0] (boxG E R M) (l4 (.b (poG E R M i k)))
theorem d14 (i k:Int) (E:List Ev) (R:List Int) (M:List (List Int)):d2j i k E R M=(((0:Int)≤i∧i < (↑E.length:Int))∧i.toNat < E.length∧((0:Int)≤k∧k < (↑E.length:Int))∧k.toNat < E.length∧(((b6 e0 E i.toNat).ag == (b6 e0 E k.toNat).ag && decide (i < k))=true→true=poG E R M i k)∧(((b6 e0 E i.toNat).ag == (b6 e0 E k.toNat).ag && decide (i < k))=false→(((b6 e0 E i.toNat).k == (16:Int) && ((b6 e0 E i.toNat).ob == (b6 e0 E k.toNat).ag || (b6 e0 E k.toNat).k == (17:Int) && (b6 e0 E i.toNat).ob == (b6 e0 E k.toNat).ob))=true→true=poG E R M i k)∧(((b6 e0 E i.toNat).k == (16:Int) && ((b6 e0 E i.toNat).ob == (b6 e0 E k.toNat).ag || (b6 e0 E k.toNat).k == (17:Int) && (b6 e0 E i.toNat).ob == (b6 e0 E k.toNat).ob))=false→((b6 e0 E k.toNat).k == (17:Int) && (b6 e0 E k.toNat).ob == (b6 e0 E i.toNat).ag)=poG E R M i k))):=by kernel_rfl
theorem v111 (i k:Int) (E:List Ev) (R:List Int) (M:List (List Int)) (h:pcE E R M i k):d2j i k E R M:=by
 rw[d14]
 refine⟨h.1,a0l h.1,h.2,a0l h.2,?_⟩
 simp only[poG,poF,poB,evA]
 grind
def d2m (i k:Int) (E:List Ev) (R:List Int) (M:List (List Int)):Prop:=n7 (({}:Kit)).tab Tryz.f117 [.i .i64 i,.i .i64 k,.ptr 0 0] (boxG E R M) (l4 (.b (rfG E R M i k)))
theorem d17 (i k:Int) (E:List Ev) (R:List Int) (M:List (List Int)):d2m i k E R M=(((0:Int)≤k∧k < (↑R.length:Int))∧k.toNat < R.length∧(b6 (0:Int) R k.toNat == i)=rfG E R M i k):=by kernel_rfl
theorem v117 (i k:Int) (E:List Ev) (R:List Int) (M:List (List Int)) (h:pcR E R M i k):d2m i k E R M:=by
 rw[d17]
 have h2:=h.1.2
 rw[← h.2] at h2
 first | exact⟨h2,a0l h2,rfl⟩
theorem n111 (nm:List (Option AV)):CallOk Tryz.prog [] 111 (n6 EL none nm PH (b9a pcE poG)):=x4 Tryz.func111 d72 fun av pre rv h=>by
 unfold b9a at h; split at h <;> cases h
 exact⟨⟨rfl,fun t a e=>by cases e <;> exact z0h _ _⟩,fun hp=>⟨_,v111 _ _ _ _ _ (hp _ (.head _)),rfl,t6,t7⟩⟩
theorem n117 (nm:List (Option AV)):CallOk Tryz.prog [] 117 (n6 EL none nm PH (b9a pcR rfG)):=x4 Tryz.func117 d76 fun av pre rv h=>by
 unfold b9a at h; split at h <;> cases h
 exact⟨⟨rfl,fun t a e=>by cases e <;> exact z0h _ _⟩,fun hp=>⟨_,v117 _ _ _ _ _ (hp _ (.head _)),rfl,t6,t7⟩⟩
theorem b5b (f:Pf) {n:Nat} (hN:n≤64):∀ a b,a < n→b≤n→(b9 f n a ++ d7 f a b).length≤8192:=fun a b ha hb=>by
 have h1:=a2j f n a
 have h2:=a9o f a b
 have h3:a * n≤64 * 64:=z2v (by omega) hN
 rw[z1a]; omega
theorem a5r (f:Pf) (n:Nat):b7 (n:Int) f=b9 f n n:=by simp[b7]
theorem a7k (f:Pf) {n:Nat} (hN:n≤64):d8 n (b9 f n n)=true∧b7 n (d9 (b9 f n n))=b7 n f:=by
 have e:b9 f n n=b7 n f:=(a5r f n).symm
 rw[e]
 refine⟨z5.2 ⟨by omega,by omega,fun p hp=>?_⟩,b18 fun a b ha hb=>?_⟩
 ·have:=a7m.1 (a4v.2 (show(p.1,p.2)∈b7 n f from hp))
  exact⟨this.1,this.2.1,this.2.2.1,this.2.2.2.1⟩
 ·rw[z2w,a7m]
  exact⟨fun h=>h.2.2.2.2,fun h=>⟨by omega,ha,by omega,hb,h⟩⟩
def b4u (pc:Int→GP) (fn:GF):SpG:=fun
 | [.ag [.es E,.is R,.rs M]]=>some ([pc 64 E R M 0 0],a9m E.length (b7 E.length (fn E R M)))
 | _=>none
def pgE (m:Int):GP:=fun E _ _ _ _=>(E.length:Int)≤m
def pgR (m:Int):GP:=fun E R _ _ _=>(E.length:Int)≤m∧R.length=E.length
theorem fo55:o6 Tryz.prog 55:=⟨Tryz.f55,Tryz.func55,by kernel_rfl,by kernel_rfl⟩
theorem fo61:o6 Tryz.prog 61:=⟨Tryz.f61,Tryz.func61,by kernel_rfl,by kernel_rfl⟩
theorem fo56:o6 Tryz.prog 56:=⟨Tryz.f56,Tryz.func56,by kernel_rfl,by kernel_rfl⟩
theorem c95 {l:List (Nat × PLoop)} {t:List (Nat × (List Slot→List MBlk→List Gh))} {s:List Nat}:a2e (56,⟨Tryz.f56,l,t,s⟩):=⟨Tryz.func56,fo56⟩
theorem d7q:o6 Tryz.prog 144:=⟨Tryz.f144,Tryz.func144,by kernel_rfl,by kernel_rfl⟩
theorem c22 {l:List (Nat × PLoop)} {t:List (Nat × (List Slot→List MBlk→List Gh))} {s:List Nat}:a2e (144,⟨Tryz.f144,l,t,s⟩):=⟨Tryz.func144,d7q⟩
def q55D (E:List Ev) (R:List Int) (M:List (List Int)):Prop:=n7 (({ calls:=[c97,c3k (no 10 ++ [some (.ps (b9 (poG E R M) E.length E.length))]),d2e 111 pcE poG (nmG E R M)],inl:=[c92 9,allI E.length (poG E R M) 9 10] }:Kit)).tab Tryz.f55 [grV E R M] (grM E R M) ((a9m E.length (b7 E.length (poG E R M))).post EL)
theorem d5w (E:List Ev) (R:List Int) (M:List (List Int)):q55D E R M=(∀(us us_1:List Value) (cd:LupCd) (x:Option Addr × Nat),∃(x:PUnit),(∃(x:Nat),(x≤E.length∧True)∧((0:Int)=(↑x:Int)∧True)∧((↑E.length:Int)=(↑E.length:Int)∧(0:Nat)=(b9 (poG E R M) E.length x).length)∧((0:Nat)=(b9 (poG E R M) E.length x).length∧(b9 (poG E R M) E.length x).length=(0:Nat)∧(b9 (poG E R M) E.length x).length=(0:Nat)∧True)∧True)∧∀(x_1:Nat),x_1≤E.length∧True→(decide ((↑x_1:Int) < (↑E.length:Int))=true→∃(x_2:Nat),(∃(x:Nat),(x≤E.length∧x_2 < E.length)∧((0:Int)=(↑x:Int)∧True)∧((↑E.length:Int)=(↑E.length:Int)∧(b9 (poG E R M) E.length x_1).length=(b9 (poG E R M) E.length x_2 ++ d7 (poG E R M) x_2 x).length)∧((b9 (poG E R M) E.length x_1).length=(b9 (poG E R M) E.length x_2 ++ d7 (poG E R M) x_2 x).length∧(∀(j:Nat),j < (b9 (poG E R M) E.length x_2 ++ d7 (poG E R M) x_2 x).length→(b6 ((0:Int),(0:Int)) (b9 (poG E R M) E.length x_1) j).fst=(b6 ((0:Int),(0:Int)) (b9 (poG E R M) E.length x_2 ++ d7 (poG E R M) x_2 x) j).fst)∧(∀(j:Nat),j < (b9 (poG E R M) E.length x_2 ++ d7 (poG E R M) x_2 x).length→(b6 ((0:Int),(0:Int)) (b9 (poG E R M) E.length x_1) j).snd=(b6 ((0:Int),(0:Int)) (b9 (poG E R M) E.length x_2 ++ d7 (poG E R M) x_2 x) j).snd)∧True)∧True)∧∀(x_3:Nat),x_3≤E.length∧x_2 < E.length→(decide ((↑x_3:Int) < (↑E.length:Int))=true→E.length =
 E.length∧R.length=R.length∧M.length=M.length∧nE E∧nI R∧nR M∧(((0:Int)≤(↑x_1:Int)∧(↑x_1:Int) < (↑E.length:Int))∧(0:Int)≤(↑x_3:Int)∧(↑x_3:Int) < (↑E.length:Int))∧(poG E R M (↑x_1:Int) (↑x_3:Int)=true→∀(us_2:List Value),us_1=us_1∧cd=cd∧us_1=us_1∧us_1=us_1∧cd=cd∧(b9 (poG E R M) E.length x_2 ++ d7 (poG E R M) x_2 x_3).length=(b9 (poG E R M) E.length x_2 ++ d7 (poG E R M) x_2 x_3).length∧(1:Nat)=(1:Nat)∧((b9 (poG E R M) E.length x_2 ++ d7 (poG E R M) x_2 x_3).length + (1:Nat)) * (16:Nat)≤(140737488355328:Nat)∧(b9 (poG E R M) E.length x_2 ++ d7 (poG E R M) x_2 x_3).length + (1:Nat)≤(9223372036854775807:Nat)∧us_1=us_1∧cd=cd∧us_2=us_2∧∃(x:Nat),(x≤E.length∧x_2 < E.length)∧((a3l E.length (poG E R M) (15:Nat) (9:Nat) (10:Nat)).ann x_2).mu x < ((a3l E.length (poG E R M) (15:Nat) (9:Nat) (10:Nat)).ann x_2).mu x_3∧(True∧True∧True∧(↑x_1:Int)=(↑x_1:Int)∧True∧E.length=E.length∧(↑E.length:Int)=(↑E.length:Int)∧(↑x_1:Int)=(↑x_1:Int)∧true=true∧(↑x_1:Int)=(↑x_1:Int)∧True∧E.length=E.length∧(↑E.length:Int)=(↑E.length:Int)∧IntKind.i64.wrap ((↑x_3:Int) + (1:Int))=(↑x:Int)∧True)∧eqA E.length (l5 E)∧eqA R.length (j5 R)∧eqA M.length (j9 M)∧(E.length=E.length∧R.length=R.length∧M.length=M.length)∧((0:Int)=(0:Int)∧True)∧(E.length =
 E.length∧R.length=R.length∧M.length=M.length)∧True∧(((E.length=E.length∧R.length=R.length∧M.length=M.length)∧True∧True∧True∧E.length=E.length∧(↑E.length:Int)=(↑E.length:Int)∧(E.length=E.length∧R.length=R.length∧M.length=M.length)∧True∧(True∧True)∧True)∧us=us)∧((0:Int)=(0:Int)∧True)∧((↑E.length:Int)=(↑E.length:Int)∧(b9 (poG E R M) E.length x_2 ++ d7 (poG E R M) x_2 x_3).length + (1:Nat)=(b9 (poG E R M) E.length x_2 ++ d7 (poG E R M) x_2 x).length)∧((b9 (poG E R M) E.length x_2 ++ d7 (poG E R M) x_2 x_3).length + (1:Nat)=(b9 (poG E R M) E.length x_2 ++ d7 (poG E R M) x_2 x).length∧(∀(j:Nat),j < (b9 (poG E R M) E.length x_2 ++ d7 (poG E R M) x_2 x).length→(bif j.blt (b9 (poG E R M) E.length x_2 ++ d7 (poG E R M) x_2 x_3).length then(b6 ((0:Int),(0:Int)) (b9 (poG E R M) E.length x_2 ++ d7 (poG E R M) x_2 x_3) j).fst else e8 [(↑x_1:Int)] (j - (b9 (poG E R M) E.length x_2 ++ d7 (poG E R M) x_2 x_3).length))=(b6 ((0:Int),(0:Int)) (b9 (poG E R M) E.length x_2 ++ d7 (poG E R M) x_2 x) j).fst)∧(∀(j:Nat),j < (b9 (poG E R M) E.length x_2 ++ d7 (poG E R M) x_2 x).length→(bif j.blt (b9 (poG E R M) E.length x_2 ++ d7 (poG E R M) x_2 x_3).length then(b6 ((0:Int),(0:Int)) (b9 (poG E R M) E.length x_2 ++ d7 (poG E R M) x_2 x_3) j).snd else e8 [(↑x_3:Int)] (j - (b9 (poG E R M) E.length x_2 ++ d7 (poG
 E R M) x_2 x_3).length))=(b6 ((0:Int),(0:Int)) (b9 (poG E R M) E.length x_2 ++ d7 (poG E R M) x_2 x) j).snd)∧True)∧(((↑E.length:Int)=(↑E.length:Int)∧(True∧True)∧True∧True∧True∧True∧True∧(↑E.length:Int)=(↑E.length:Int)∧((↑E.length:Int)=(↑E.length:Int)∧True)∧(True∧True)∧True∧True∧True∧True∧True∧True∧True∧True∧True)∧us_1=us_1)∧(us_1=us_1∧cd=cd)∧True)∧(poG E R M (↑x_1:Int) (↑x_3:Int) = !true→∃(x:Nat),(x≤E.length∧x_2 < E.length)∧((a3l E.length (poG E R M) (15:Nat) (9:Nat) (10:Nat)).ann x_2).mu x < ((a3l E.length (poG E R M) (15:Nat) (9:Nat) (10:Nat)).ann x_2).mu x_3∧(True∧True∧True∧(↑x_1:Int)=(↑x_1:Int)∧True∧E.length=E.length∧(↑E.length:Int)=(↑E.length:Int)∧(↑x_1:Int)=(↑x_1:Int)∧true=true∧(↑x_1:Int)=(↑x_1:Int)∧True∧E.length=E.length∧(↑E.length:Int)=(↑E.length:Int)∧IntKind.i64.wrap ((↑x_3:Int) + (1:Int))=(↑x:Int)∧True)∧eqA E.length (l5 E)∧eqA R.length (j5 R)∧eqA M.length (j9 M)∧(E.length=E.length∧R.length=R.length∧M.length=M.length)∧((0:Int)=(0:Int)∧True)∧(E.length=E.length∧R.length=R.length∧M.length=M.length)∧True∧(((E.length=E.length∧R.length=R.length∧M.length=M.length)∧True∧True∧True∧E.length=E.length∧(↑E.length:Int)=(↑E.length:Int)∧(E.length=E.length∧R.length=R.length∧M.length=M.length) ∧
 True∧(True∧True)∧True)∧us=us)∧((0:Int)=(0:Int)∧True)∧((↑E.length:Int)=(↑E.length:Int)∧(b9 (poG E R M) E.length x_2 ++ d7 (poG E R M) x_2 x_3).length=(b9 (poG E R M) E.length x_2 ++ d7 (poG E R M) x_2 x).length)∧((b9 (poG E R M) E.length x_2 ++ d7 (poG E R M) x_2 x_3).length=(b9 (poG E R M) E.length x_2 ++ d7 (poG E R M) x_2 x).length∧(∀(j:Nat),j < (b9 (poG E R M) E.length x_2 ++ d7 (poG E R M) x_2 x).length→(b6 ((0:Int),(0:Int)) (b9 (poG E R M) E.length x_2 ++ d7 (poG E R M) x_2 x_3) j).fst=(b6 ((0:Int),(0:Int)) (b9 (poG E R M) E.length x_2 ++ d7 (poG E R M) x_2 x) j).fst)∧(∀(j:Nat),j < (b9 (poG E R M) E.length x_2 ++ d7 (poG E R M) x_2 x).length→(b6 ((0:Int),(0:Int)) (b9 (poG E R M) E.length x_2 ++ d7 (poG E R M) x_2 x_3) j).snd=(b6 ((0:Int),(0:Int)) (b9 (poG E R M) E.length x_2 ++ d7 (poG E R M) x_2 x) j).snd)∧True)∧(((↑E.length:Int)=(↑E.length:Int)∧(True∧True)∧True∧True∧True∧True∧True∧(↑E.length:Int)=(↑E.length:Int)∧((↑E.length:Int)=(↑E.length:Int)∧True)∧(True∧True)∧True∧True∧True∧True∧True∧True∧True∧True∧True)∧us_1=us_1)∧(us_1=us_1∧cd=cd)∧True))∧(decide ((↑x_3:Int) < (↑E.length:Int))=false→∃(x_4:Nat),(x_4≤E.length∧True)∧((PLoop.of (a5a E.length (poG E R M) (9:Nat) (9:Nat) (10:Nat))).ann x).mu x_4 < ((PLoop.of (a5a E.length (poG E R M) (9:Nat)
 (9:Nat) (10:Nat))).ann x).mu x_1∧(True∧True∧True∧True∧E.length=E.length∧(↑E.length:Int)=(↑E.length:Int)∧IntKind.i64.wrap ((↑x_1:Int) + (1:Int))=(↑x_4:Int)∧True)∧eqA E.length (l5 E)∧eqA R.length (j5 R)∧eqA M.length (j9 M)∧(E.length=E.length∧R.length=R.length∧M.length=M.length)∧((0:Int)=(0:Int)∧True)∧(E.length=E.length∧R.length=R.length∧M.length=M.length)∧True∧(((E.length=E.length∧R.length=R.length∧M.length=M.length)∧True∧True∧True∧E.length=E.length∧(↑E.length:Int)=(↑E.length:Int)∧(E.length=E.length∧R.length=R.length∧M.length=M.length)∧True∧(True∧True)∧True)∧us=us)∧((0:Int)=(0:Int)∧True)∧((↑E.length:Int)=(↑E.length:Int)∧(b9 (poG E R M) E.length x_2 ++ d7 (poG E R M) x_2 x_3).length=(b9 (poG E R M) E.length x_4).length)∧((b9 (poG E R M) E.length x_2 ++ d7 (poG E R M) x_2 x_3).length=(b9 (poG E R M) E.length x_4).length∧(∀(j:Nat),j < (b9 (poG E R M) E.length x_4).length→(b6 ((0:Int),(0:Int)) (b9 (poG E R M) E.length x_2 ++ d7 (poG E R M) x_2 x_3) j).fst=(b6 ((0:Int),(0:Int)) (b9 (poG E R M) E.length x_4) j).fst)∧(∀(j:Nat),j < (b9 (poG E R M) E.length x_4).length→(b6 ((0:Int),(0:Int)) (b9 (poG E R M) E.length x_2 ++ d7 (poG E R M) x_2 x_3) j).snd=(b6 ((0:Int),(0:Int)) (b9 (poG E R M) E.length x_4) j).snd)∧True)∧(((↑E.length:Int) =
 (↑E.length:Int)∧(True∧True)∧True∧True∧True∧True∧True∧(↑E.length:Int)=(↑E.length:Int)∧((↑E.length:Int)=(↑E.length:Int)∧True)∧(True∧True)∧True∧True∧True∧True∧True∧True∧True∧True∧True)∧us_1=us_1)∧(us_1=us_1∧cd=cd)∧True))∧(decide ((↑x_1:Int) < (↑E.length:Int))=false→us_1=us_1∧us_1=us_1∧cd=cd∧(b9 (poG E R M) E.length x_1).length=(b9 (poG E R M) E.length x_1).length∧mkN (fun(j:Nat)=>((b6 ((0:Int),(0:Int)) (b9 (poG E R M) E.length x_1) j).fst,(b6 ((0:Int),(0:Int)) (b9 (poG E R M) E.length x_1) j).snd)) (b9 (poG E R M) E.length x_1).length=b9 (poG E R M) E.length E.length∧(b9 (poG E R M) E.length E.length).length≤(1099511627776:Nat)∧us=us∧(AV.ps (bif d8 (↑E.length:Int) (b9 (poG E R M) E.length E.length) then b7 (↑E.length:Int) (d9 (b9 (poG E R M) E.length E.length)) else [])).len=(AV.ps (b7 (↑E.length:Int) (poG E R M))).len∧((∀(j:Nat),j < (AV.ps (b7 (↑E.length:Int) (poG E R M))).len→(b6 ((0:Int),(0:Int)) (bif d8 (↑E.length:Int) (b9 (poG E R M) E.length E.length) then b7 (↑E.length:Int) (d9 (b9 (poG E R M) E.length E.length)) else []) j).fst=(b6 ((0:Int),(0:Int)) (b7 (↑E.length:Int) (poG E R M)) j).fst)∧(∀(j:Nat),j < (AV.ps (b7 (↑E.length:Int) (poG E R M))).len→(b6 ((0:Int),(0:Int)) (bif d8 (↑E.length:Int) (b9 (poG E R M) E.length E.length)
 then b7 (↑E.length:Int) (d9 (b9 (poG E R M) E.length E.length)) else []) j).snd=(b6 ((0:Int),(0:Int)) (b7 (↑E.length:Int) (poG E R M)) j).snd)∧True)∧(bif d8 (↑E.length:Int) (b9 (poG E R M) E.length E.length) then(↑E.length:Int) else(0:Int))=(↑E.length:Int)∧(AV.ps (bif d8 (↑E.length:Int) (b9 (poG E R M) E.length E.length) then b7 (↑E.length:Int) (d9 (b9 (poG E R M) E.length E.length)) else [])).len=(AV.ps (b7 (↑E.length:Int) (poG E R M))).len∧True)):=by kernel_rfl
theorem v55 (E:List Ev) (R:List Int) (M:List (List Int)) (h:pgE 64 E R M 0 0):q55D E R M:=by
 rw[d5w]
 have h64:(E.length:Int)≤64:=h
 have hlen:=b5b (poG E R M) (n:=E.length) (by omega)
 simp only[eq_self,true_and,and_true,z0o,imp_self,m5,m6,m9,g7,g9,PLoop.of,p9,AV.len,i5,z0s,j4,j7,j8,l7,l8,l9,a5a,a3l,PLoop.of,m9]
 refine fun cd=>⟨(),⟨0,by simp,rfl,?_⟩,fun a ha=>⟨fun hlt=>⟨a,⟨0,?_⟩,fun b hb=>⟨fun hlb=>⟨⟨by have:=z0e hlt; have:=z0e hlb; omega,by have:=z0e hlt; have:=z0e hlb; omega⟩,fun hf=>?_,fun hf=>?_⟩,fun hlb=>?_⟩⟩,fun hlt=>?_⟩⟩
 ·simp[a26]
 ·have ha2:a < E.length:=by have:=z0e hlt; omega
  simp[a3s,ha2]
 ·have hb2:b < E.length:=by have:=z0e hlb; omega
  have h1:=hlen a b hb.2 hb.1
  have e:d7 (poG E R M) a (b + 1)=d7 (poG E R M) a b ++ [((a:Int),(b:Int))]:=by rw[z4,if_pos hf]
  have e2:b9 (poG E R M) E.length a ++ d7 (poG E R M) a (b + 1)=(b9 (poG E R M) E.length a ++ d7 (poG E R M) a b) ++ [((a:Int),(b:Int))]:=by rw[e,z1x]
  refine⟨by omega,by omega,b + 1,⟨by omega,hb.2⟩,by omega,wrS (n:=E.length) hb2 (by omega),?_⟩
  rw[e2]
  have e3:(b9 (poG E R M) E.length a ++ d7 (poG E R M) a b ++ [((a:Int),(b:Int))]).length=(b9 (poG E R M) E.length a ++ d7 (poG E R M) a b).length + 1:=by rw[z1a (bs:=[((a:Int),(b:Int))])]; rfl
  exact⟨e3.symm,e3.symm,ap1 (·.1) _ _,ap1 (·.2) _ _⟩
 ·have hb2:b < E.length:=by have:=z0e hlb; omega
  have e:d7 (poG E R M) a (b + 1)=d7 (poG E R M) a b:=by rw[z4,if_neg (by rw[hf]; simp),z1f]
  refine⟨b + 1,⟨by omega,hb.2⟩,by omega,wrS (n:=E.length) hb2 (by omega),?_⟩
  rw[e]
  simp
 ·have hb2:b=E.length:=by have:=z0m hlb; omega
  have e:b9 (poG E R M) E.length (a + 1)=b9 (poG E R M) E.length a ++ d7 (poG E R M) a b:=by rw[a15,hb2]
  refine⟨a + 1,by omega,by omega,wrS (n:=E.length) hb.2 (by omega),?_⟩
  rw[e]
  simp
 ·have ha2:a=E.length:=by have:=z0m hlt; omega
  subst ha2
  obtain⟨n1,n2⟩:=a7k (poG E R M) (n:=E.length) (by omega)
  have h1:=a2j (poG E R M) E.length E.length
  have h3:E.length * E.length≤64 * 64:=z2v (by omega) (by omega)
  rw[n1]
  simp only[z0g,n2]
  simp only[z0o,and_self,and_true,true_and]
  omega
def q61D (E:List Ev) (R:List Int) (M:List (List Int)):Prop:=n7 (({ calls:=[c97,c3k (no 10 ++ [some (.ps (b9 (rfG E R M) E.length E.length))]),d2e 117 pcR rfG (nmG E R M)],inl:=[c92 9,allI E.length (rfG E R M) 9 10] }:Kit)).tab Tryz.f61 [grV E R M] (grM E R M) ((a9m E.length (b7 E.length (rfG E R M))).post EL)
theorem d60 (E:List Ev) (R:List Int) (M:List (List Int)):q61D E R M=(∀(us us_1:List Value) (cd:LupCd) (x:Option Addr × Nat),∃(x:PUnit),(∃(x:Nat),(x≤E.length∧True)∧((0:Int)=(↑x:Int)∧True)∧((↑E.length:Int)=(↑E.length:Int)∧(0:Nat)=(b9 (rfG E R M) E.length x).length)∧((0:Nat)=(b9 (rfG E R M) E.length x).length∧(b9 (rfG E R M) E.length x).length=(0:Nat)∧(b9 (rfG E R M) E.length x).length=(0:Nat)∧True)∧True)∧∀(x_1:Nat),x_1≤E.length∧True→(decide ((↑x_1:Int) < (↑E.length:Int))=true→∃(x_2:Nat),(∃(x:Nat),(x≤E.length∧x_2 < E.length)∧((0:Int)=(↑x:Int)∧True)∧((↑E.length:Int)=(↑E.length:Int)∧(b9 (rfG E R M) E.length x_1).length=(b9 (rfG E R M) E.length x_2 ++ d7 (rfG E R M) x_2 x).length)∧((b9 (rfG E R M) E.length x_1).length=(b9 (rfG E R M) E.length x_2 ++ d7 (rfG E R M) x_2 x).length∧(∀(j:Nat),j < (b9 (rfG E R M) E.length x_2 ++ d7 (rfG E R M) x_2 x).length→(b6 ((0:Int),(0:Int)) (b9 (rfG E R M) E.length x_1) j).fst=(b6 ((0:Int),(0:Int)) (b9 (rfG E R M) E.length x_2 ++ d7 (rfG E R M) x_2 x) j).fst)∧(∀(j:Nat),j < (b9 (rfG E R M) E.length x_2 ++ d7 (rfG E R M) x_2 x).length→(b6 ((0:Int),(0:Int)) (b9 (rfG E R M) E.length x_1) j).snd=(b6 ((0:Int),(0:Int)) (b9 (rfG E R M) E.length x_2 ++ d7 (rfG E R M) x_2 x) j).snd)∧True)∧True)∧∀(x_3:Nat),x_3≤E.length∧x_2 < E.length→(decide ((↑x_3:Int) < (↑E.length:Int))=true→E.length =
 E.length∧R.length=R.length∧M.length=M.length∧nE E∧nI R∧nR M∧((((0:Int)≤(↑x_1:Int)∧(↑x_1:Int) < (↑E.length:Int))∧(0:Int)≤(↑x_3:Int)∧(↑x_3:Int) < (↑E.length:Int))∧R.length=E.length)∧(rfG E R M (↑x_1:Int) (↑x_3:Int)=true→∀(us_2:List Value),us_1=us_1∧cd=cd∧us_1=us_1∧us_1=us_1∧cd=cd∧(b9 (rfG E R M) E.length x_2 ++ d7 (rfG E R M) x_2 x_3).length=(b9 (rfG E R M) E.length x_2 ++ d7 (rfG E R M) x_2 x_3).length∧(1:Nat)=(1:Nat)∧((b9 (rfG E R M) E.length x_2 ++ d7 (rfG E R M) x_2 x_3).length + (1:Nat)) * (16:Nat)≤(140737488355328:Nat)∧(b9 (rfG E R M) E.length x_2 ++ d7 (rfG E R M) x_2 x_3).length + (1:Nat)≤(9223372036854775807:Nat)∧us_1=us_1∧cd=cd∧us_2=us_2∧∃(x:Nat),(x≤E.length∧x_2 < E.length)∧((a3l E.length (rfG E R M) (15:Nat) (9:Nat) (10:Nat)).ann x_2).mu x < ((a3l E.length (rfG E R M) (15:Nat) (9:Nat) (10:Nat)).ann x_2).mu x_3∧(True∧True∧True∧(↑x_1:Int)=(↑x_1:Int)∧True∧E.length=E.length∧(↑E.length:Int)=(↑E.length:Int)∧(↑x_1:Int)=(↑x_1:Int)∧true=true∧(↑x_1:Int)=(↑x_1:Int)∧True∧E.length=E.length∧(↑E.length:Int)=(↑E.length:Int)∧IntKind.i64.wrap ((↑x_3:Int) + (1:Int))=(↑x:Int)∧True)∧eqA E.length (l5 E)∧eqA R.length (j5 R)∧eqA M.length (j9 M)∧(E.length=E.length∧R.length=R.length∧M.length=M.length)∧((0:Int)=(0:Int) ∧
 True)∧(E.length=E.length∧R.length=R.length∧M.length=M.length)∧True∧(((E.length=E.length∧R.length=R.length∧M.length=M.length)∧True∧True∧True∧E.length=E.length∧(↑E.length:Int)=(↑E.length:Int)∧(E.length=E.length∧R.length=R.length∧M.length=M.length)∧True∧(True∧True)∧True)∧us=us)∧((0:Int)=(0:Int)∧True)∧((↑E.length:Int)=(↑E.length:Int)∧(b9 (rfG E R M) E.length x_2 ++ d7 (rfG E R M) x_2 x_3).length + (1:Nat)=(b9 (rfG E R M) E.length x_2 ++ d7 (rfG E R M) x_2 x).length)∧((b9 (rfG E R M) E.length x_2 ++ d7 (rfG E R M) x_2 x_3).length + (1:Nat)=(b9 (rfG E R M) E.length x_2 ++ d7 (rfG E R M) x_2 x).length∧(∀(j:Nat),j < (b9 (rfG E R M) E.length x_2 ++ d7 (rfG E R M) x_2 x).length→(bif j.blt (b9 (rfG E R M) E.length x_2 ++ d7 (rfG E R M) x_2 x_3).length then(b6 ((0:Int),(0:Int)) (b9 (rfG E R M) E.length x_2 ++ d7 (rfG E R M) x_2 x_3) j).fst else e8 [(↑x_1:Int)] (j - (b9 (rfG E R M) E.length x_2 ++ d7 (rfG E R M) x_2 x_3).length))=(b6 ((0:Int),(0:Int)) (b9 (rfG E R M) E.length x_2 ++ d7 (rfG E R M) x_2 x) j).fst)∧(∀(j:Nat),j < (b9 (rfG E R M) E.length x_2 ++ d7 (rfG E R M) x_2 x).length→(bif j.blt (b9 (rfG E R M) E.length x_2 ++ d7 (rfG E R M) x_2 x_3).length then(b6 ((0:Int),(0:Int)) (b9 (rfG E R M) E.length x_2 ++ d7 (rfG E R M) x_2 x_3) j).snd else e8 [(↑x_3:Int)] (j - (b9 (rfG E R M)
 E.length x_2 ++ d7 (rfG E R M) x_2 x_3).length))=(b6 ((0:Int),(0:Int)) (b9 (rfG E R M) E.length x_2 ++ d7 (rfG E R M) x_2 x) j).snd)∧True)∧(((↑E.length:Int)=(↑E.length:Int)∧(True∧True)∧True∧True∧True∧True∧True∧(↑E.length:Int)=(↑E.length:Int)∧((↑E.length:Int)=(↑E.length:Int)∧True)∧(True∧True)∧True∧True∧True∧True∧True∧True∧True∧True∧True)∧us_1=us_1)∧(us_1=us_1∧cd=cd)∧True)∧(rfG E R M (↑x_1:Int) (↑x_3:Int) = !true→∃(x:Nat),(x≤E.length∧x_2 < E.length)∧((a3l E.length (rfG E R M) (15:Nat) (9:Nat) (10:Nat)).ann x_2).mu x < ((a3l E.length (rfG E R M) (15:Nat) (9:Nat) (10:Nat)).ann x_2).mu x_3∧(True∧True∧True∧(↑x_1:Int)=(↑x_1:Int)∧True∧E.length=E.length∧(↑E.length:Int)=(↑E.length:Int)∧(↑x_1:Int)=(↑x_1:Int)∧true=true∧(↑x_1:Int)=(↑x_1:Int)∧True∧E.length=E.length∧(↑E.length:Int)=(↑E.length:Int)∧IntKind.i64.wrap ((↑x_3:Int) + (1:Int))=(↑x:Int)∧True)∧eqA E.length (l5 E)∧eqA R.length (j5 R)∧eqA M.length (j9 M)∧(E.length=E.length∧R.length=R.length∧M.length=M.length)∧((0:Int)=(0:Int)∧True)∧(E.length=E.length∧R.length=R.length∧M.length=M.length)∧True∧(((E.length=E.length∧R.length=R.length∧M.length=M.length)∧True∧True∧True∧E.length=E.length∧(↑E.length:Int)=(↑E.length:Int)∧(E.length=E.length∧R.length=R.length
 ∧ M.length=M.length)∧True∧(True∧True)∧True)∧us=us)∧((0:Int)=(0:Int)∧True)∧((↑E.length:Int)=(↑E.length:Int)∧(b9 (rfG E R M) E.length x_2 ++ d7 (rfG E R M) x_2 x_3).length=(b9 (rfG E R M) E.length x_2 ++ d7 (rfG E R M) x_2 x).length)∧((b9 (rfG E R M) E.length x_2 ++ d7 (rfG E R M) x_2 x_3).length=(b9 (rfG E R M) E.length x_2 ++ d7 (rfG E R M) x_2 x).length∧(∀(j:Nat),j < (b9 (rfG E R M) E.length x_2 ++ d7 (rfG E R M) x_2 x).length→(b6 ((0:Int),(0:Int)) (b9 (rfG E R M) E.length x_2 ++ d7 (rfG E R M) x_2 x_3) j).fst=(b6 ((0:Int),(0:Int)) (b9 (rfG E R M) E.length x_2 ++ d7 (rfG E R M) x_2 x) j).fst)∧(∀(j:Nat),j < (b9 (rfG E R M) E.length x_2 ++ d7 (rfG E R M) x_2 x).length→(b6 ((0:Int),(0:Int)) (b9 (rfG E R M) E.length x_2 ++ d7 (rfG E R M) x_2 x_3) j).snd=(b6 ((0:Int),(0:Int)) (b9 (rfG E R M) E.length x_2 ++ d7 (rfG E R M) x_2 x) j).snd)∧True)∧(((↑E.length:Int)=(↑E.length:Int)∧(True∧True)∧True∧True∧True∧True∧True∧(↑E.length:Int)=(↑E.length:Int)∧((↑E.length:Int)=(↑E.length:Int)∧True)∧(True∧True)∧True∧True∧True∧True∧True∧True∧True∧True∧True)∧us_1=us_1)∧(us_1=us_1∧cd=cd)∧True))∧(decide ((↑x_3:Int) < (↑E.length:Int))=false→∃(x_4:Nat),(x_4≤E.length∧True)∧((PLoop.of (a5a E.length (rfG E R M) (9:Nat) (9:Nat) (10:Nat))).ann x).mu x_4 < ((PLoop.of (a5a
 E.length (rfG E R M) (9:Nat) (9:Nat) (10:Nat))).ann x).mu x_1∧(True∧True∧True∧True∧E.length=E.length∧(↑E.length:Int)=(↑E.length:Int)∧IntKind.i64.wrap ((↑x_1:Int) + (1:Int))=(↑x_4:Int)∧True)∧eqA E.length (l5 E)∧eqA R.length (j5 R)∧eqA M.length (j9 M)∧(E.length=E.length∧R.length=R.length∧M.length=M.length)∧((0:Int)=(0:Int)∧True)∧(E.length=E.length∧R.length=R.length∧M.length=M.length)∧True∧(((E.length=E.length∧R.length=R.length∧M.length=M.length)∧True∧True∧True∧E.length=E.length∧(↑E.length:Int)=(↑E.length:Int)∧(E.length=E.length∧R.length=R.length∧M.length=M.length)∧True∧(True∧True)∧True)∧us=us)∧((0:Int)=(0:Int)∧True)∧((↑E.length:Int)=(↑E.length:Int)∧(b9 (rfG E R M) E.length x_2 ++ d7 (rfG E R M) x_2 x_3).length=(b9 (rfG E R M) E.length x_4).length)∧((b9 (rfG E R M) E.length x_2 ++ d7 (rfG E R M) x_2 x_3).length=(b9 (rfG E R M) E.length x_4).length∧(∀(j:Nat),j < (b9 (rfG E R M) E.length x_4).length→(b6 ((0:Int),(0:Int)) (b9 (rfG E R M) E.length x_2 ++ d7 (rfG E R M) x_2 x_3) j).fst=(b6 ((0:Int),(0:Int)) (b9 (rfG E R M) E.length x_4) j).fst)∧(∀(j:Nat),j < (b9 (rfG E R M) E.length x_4).length→(b6 ((0:Int),(0:Int)) (b9 (rfG E R M) E.length x_2 ++ d7 (rfG E R M) x_2 x_3) j).snd=(b6 ((0:Int),(0:Int)) (b9 (rfG E R M) E.length x_4) j).snd) ∧
 True)∧(((↑E.length:Int)=(↑E.length:Int)∧(True∧True)∧True∧True∧True∧True∧True∧(↑E.length:Int)=(↑E.length:Int)∧((↑E.length:Int)=(↑E.length:Int)∧True)∧(True∧True)∧True∧True∧True∧True∧True∧True∧True∧True∧True)∧us_1=us_1)∧(us_1=us_1∧cd=cd)∧True))∧(decide ((↑x_1:Int) < (↑E.length:Int))=false→us_1=us_1∧us_1=us_1∧cd=cd∧(b9 (rfG E R M) E.length x_1).length=(b9 (rfG E R M) E.length x_1).length∧mkN (fun(j:Nat)=>((b6 ((0:Int),(0:Int)) (b9 (rfG E R M) E.length x_1) j).fst,(b6 ((0:Int),(0:Int)) (b9 (rfG E R M) E.length x_1) j).snd)) (b9 (rfG E R M) E.length x_1).length=b9 (rfG E R M) E.length E.length∧(b9 (rfG E R M) E.length E.length).length≤(1099511627776:Nat)∧us=us∧(AV.ps (bif d8 (↑E.length:Int) (b9 (rfG E R M) E.length E.length) then b7 (↑E.length:Int) (d9 (b9 (rfG E R M) E.length E.length)) else [])).len=(AV.ps (b7 (↑E.length:Int) (rfG E R M))).len∧((∀(j:Nat),j < (AV.ps (b7 (↑E.length:Int) (rfG E R M))).len→(b6 ((0:Int),(0:Int)) (bif d8 (↑E.length:Int) (b9 (rfG E R M) E.length E.length) then b7 (↑E.length:Int) (d9 (b9 (rfG E R M) E.length E.length)) else []) j).fst=(b6 ((0:Int),(0:Int)) (b7 (↑E.length:Int) (rfG E R M)) j).fst)∧(∀(j:Nat),j < (AV.ps (b7 (↑E.length:Int) (rfG E R M))).len→(b6 ((0:Int),(0:Int)) (bif d8 (↑E.length:Int) (b9
 (rfG E R M) E.length E.length) then b7 (↑E.length:Int) (d9 (b9 (rfG E R M) E.length E.length)) else []) j).snd=(b6 ((0:Int),(0:Int)) (b7 (↑E.length:Int) (rfG E R M)) j).snd)∧True)∧(bif d8 (↑E.length:Int) (b9 (rfG E R M) E.length E.length) then(↑E.length:Int) else(0:Int))=(↑E.length:Int)∧(AV.ps (bif d8 (↑E.length:Int) (b9 (rfG E R M) E.length E.length) then b7 (↑E.length:Int) (d9 (b9 (rfG E R M) E.length E.length)) else [])).len=(AV.ps (b7 (↑E.length:Int) (rfG E R M))).len∧True)):=by kernel_rfl
theorem v61 (E:List Ev) (R:List Int) (M:List (List Int)) (h:pgR 64 E R M 0 0):q61D E R M:=by
 rw[d60]
 have h64:(E.length:Int)≤64:=h.1
 have hlen:=b5b (rfG E R M) (n:=E.length) (by omega)
 simp only[eq_self,true_and,and_true,z0o,imp_self,m5,m6,m9,g7,g9,PLoop.of,p9,AV.len,i5,z0s,j4,j7,j8,l7,l8,l9,a5a,a3l,PLoop.of,m9]
 refine fun cd=>⟨(),⟨0,by simp,rfl,?_⟩,fun a ha=>⟨fun hlt=>⟨a,⟨0,?_⟩,fun b hb=>⟨fun hlb=>⟨⟨⟨by have:=z0e hlt; have:=z0e hlb; omega,by have:=z0e hlt; have:=z0e hlb; omega⟩,h.2⟩,fun hf=>?_,fun hf=>?_⟩,fun hlb=>?_⟩⟩,fun hlt=>?_⟩⟩
 ·simp[a26]
 ·have ha2:a < E.length:=by have:=z0e hlt; omega
  simp[a3s,ha2]
 ·have hb2:b < E.length:=by have:=z0e hlb; omega
  have h1:=hlen a b hb.2 hb.1
  have e:d7 (rfG E R M) a (b + 1)=d7 (rfG E R M) a b ++ [((a:Int),(b:Int))]:=by rw[z4,if_pos hf]
  have e2:b9 (rfG E R M) E.length a ++ d7 (rfG E R M) a (b + 1)=(b9 (rfG E R M) E.length a ++ d7 (rfG E R M) a b) ++ [((a:Int),(b:Int))]:=by rw[e,z1x]
  refine⟨by omega,by omega,b + 1,⟨by omega,hb.2⟩,by omega,wrS (n:=E.length) hb2 (by omega),?_⟩
  rw[e2]
  have e3:(b9 (rfG E R M) E.length a ++ d7 (rfG E R M) a b ++ [((a:Int),(b:Int))]).length=(b9 (rfG E R M) E.length a ++ d7 (rfG E R M) a b).length + 1:=by rw[z1a (bs:=[((a:Int),(b:Int))])]; rfl
  exact⟨e3.symm,e3.symm,ap1 (·.1) _ _,ap1 (·.2) _ _⟩
 ·have hb2:b < E.length:=by have:=z0e hlb; omega
  have e:d7 (rfG E R M) a (b + 1)=d7 (rfG E R M) a b:=by rw[z4,if_neg (by rw[hf]; simp),z1f]
  refine⟨b + 1,⟨by omega,hb.2⟩,by omega,wrS (n:=E.length) hb2 (by omega),?_⟩
  rw[e]
  simp
 ·have hb2:b=E.length:=by have:=z0m hlb; omega
  have e:b9 (rfG E R M) E.length (a + 1)=b9 (rfG E R M) E.length a ++ d7 (rfG E R M) a b:=by rw[a15,hb2]
  refine⟨a + 1,by omega,by omega,wrS (n:=E.length) hb.2 (by omega),?_⟩
  rw[e]
  simp
 ·have ha2:a=E.length:=by have:=z0m hlt; omega
  subst ha2
  obtain⟨n1,n2⟩:=a7k (rfG E R M) (n:=E.length) (by omega)
  have h1:=a2j (rfG E R M) E.length E.length
  have h3:E.length * E.length≤64 * 64:=z2v (by omega) (by omega)
  rw[n1]
  simp only[z0g,n2]
  simp only[z0o,and_self,and_true,true_and]
  omega
theorem n55 (nm:List (Option AV)):CallOk Tryz.prog [] 55 (n6 EL none nm [PG] (b4u pgE poG)):=x4 Tryz.func55 fo55 fun av pre rv h=>by
 unfold b4u at h; split at h <;> cases h
 exact⟨⟨rfl,fun t a e=>by cases e <;> exact z0h _ _⟩,fun hp=>⟨_,v55 _ _ _ (hp _ (.head _)),rfl,(m4 c9k (m4 (c43 _) (m4 (n111 _) t6))),(a3f c95 (a3f c22 t7))⟩⟩
theorem n61 (nm:List (Option AV)):CallOk Tryz.prog [] 61 (n6 EL none nm [PG] (b4u pgR rfG)):=x4 Tryz.func61 fo61 fun av pre rv h=>by
 unfold b4u at h; split at h <;> cases h
 exact⟨⟨rfl,fun t a e=>by cases e <;> exact z0h _ _⟩,fun hp=>⟨_,v61 _ _ _ (hp _ (.head _)),rfl,(m4 c9k (m4 (c43 _) (m4 (n117 _) t6))),(a3f c95 (a3f c22 t7))⟩⟩
def a82 (x:Int):List Int→Int→Int
 | [],_=>-1
 | y :: r,i=>bif y == x then i else a82 x r (i + 1)
def a4t (l:List Int) (x:Int):Int:=a82 x l 0
theorem c4g {x:Int}:∀ {l:List Int} {j:Nat} {i:Int},(∀ q,q < j→b6 0 l q≠x)→j < l.length→b6 0 l j=x→a82 x l i=i + j:=by
 intro l
 induction l with
 | nil=>intro j i _ h; simp at h
 | cons y r ih =>
  intro j i h hj hx
  cases j with
  | zero =>
   simp only[b6] at hx
   simp[a82,hx]
  | succ j =>
   have h0:y≠x:=by have:=h 0 (by omega); simpa [b6] using this
   have e:(y == x)=false:=by simpa using h0
   rw[a82,e,z0l,ih (j:=j) (fun q hq=>by have:=h (q + 1) (by omega); simpa [b6] using this) (by simpa using hj) (by simpa [b6] using hx)]
   omega
theorem c12 {x:Int}:∀ {l:List Int} {i:Int},(∀ q,q < l.length→b6 0 l q≠x)→a82 x l i = -1:=by
 intro l
 induction l with
 | nil=>intro i _; rfl
 | cons y r ih =>
  intro i h
  have h0:y≠x:=by have:=h 0 (by simp); simpa [b6] using this
  have e:(y == x)=false:=by simpa using h0
  rw[a82,e,z0l,ih (fun q hq=>by have:=h (q + 1) (by simpa using hq); simpa [b6] using this)]
theorem b3o {x:Int} {l:List Int} {j:Nat} (h:∀ q,q < j→b6 0 l q≠x) (hj:j < l.length) (hx:b6 0 l j=x):a4t l x=j:=by
 rw[a4t,c4g h hj hx]; omega
theorem b5j {x:Int} {l:List Int} (h:∀ q,q < l.length→b6 0 l q≠x):a4t l x = -1:=c12 h
abbrev L40 (n:Nat):Prop:=n≤1099511627776
def c7y:SpG:=fun | [.lf (.is l),.lf (.i x)]=>some ([L40 l.length],.rv (.pl (.i .i64 (a4t l x)))) | _=>none
def b8e (l:List Int) (x:Int) (t:Nat):LAnn:=p9 l.length t (fun j=>∀ q,q < j→b6 0 l q≠x) (fun _=>[]) []
def d3t (n:Nat) (nm:List (Option AV)):Nat × (List MBlk→List SV→Option AR):=(n,n6 EL none nm [.lf .is,.lf .i] c7y)
def a1n (a:Int) (E:List Ev):Nat→Int
 | 0=>0
 | j + 1=>bif (b6 e0 E j).ag == a then a1n a E j + 1 else a1n a E j
theorem b7w (a:Int) (E:List Ev):∀ j,0≤a1n a E j∧a1n a E j≤j:=by
 intro j
 induction j with
 | zero=>simp[a1n]
 | succ j ih=>simp only[a1n]; cases(b6 e0 E j).ag == a <;> simp <;> omega
def c0u (E:List Ev) (k a:Int):Int:=a1n a E k.toNat
def d4o:SpG:=fun | [.lf (.es E),.lf (.i k),.lf (.i a)]=>some ([(0≤k∧k≤E.length)∧L40 E.length],.rv (.pl (.i .i64 (c0u E k a)))) | _=>none
def c3q (E:List Ev) (k a:Int) (t c:Nat):LAnn where
 X:=Nat
 inv:=fun j=>j≤k.toNat
 slots:=fun j=>[(t,.i .i64 (j:Int)),(c,.i .i64 (a1n a E j))]
 mem:=fun _=>[]
 mu:=fun j=>k.toNat - j
 kill:=[]
def kNum (nm:List (Option AV)):Nat × (List MBlk→List SV→Option AR):=(124,n6 EL none nm [.lf .es,.lf .i,.lf .i] d4o)
theorem fo66:o6 Tryz.prog 66:=⟨Tryz.f66,Tryz.func66,by kernel_rfl,by kernel_rfl⟩
def q66D (l:List Int) (x:Int):Prop:=n7 (({ loops:=[(0,.of (b8e l x 5))] }:Kit)).tab Tryz.f66 [.sl 0 l.length,.i .i64 x] [.arr l.length (j5 l)] (l4 (.i .i64 (a4t l x)))
theorem d65 (l:List Int) (x:Int):q66D l x=(∃(x_1:PUnit),(∃(x_2:Nat),(x_2≤l.length∧∀(q:Nat),q < x_2→b6 (0:Int) l q≠x)∧((0:Int)=(↑x_2:Int)∧True)∧True)∧∀(x_2:Nat),(x_2≤l.length∧∀(q:Nat),q < x_2→b6 (0:Int) l q≠x)→(decide ((↑x_2:Int) < (↑l.length:Int))=true→((0:Int)≤(↑x_2:Int)∧(↑x_2:Int) < (↑l.length:Int))∧x_2 < l.length∧((b6 (0:Int) l x_2 == x)=true→(↑x_2:Int)=a4t l x)∧((b6 (0:Int) l x_2 == x)=false→∃(x_3:Nat),(x_3≤l.length∧∀(q:Nat),q < x_3→b6 (0:Int) l q≠x)∧((PLoop.of (b8e l x (5:Nat))).ann x_1).mu x_3 < ((PLoop.of (b8e l x (5:Nat))).ann x_1).mu x_2∧(l.length=l.length∧x=x∧IntKind.i64.wrap ((↑x_2:Int) + (1:Int))=(↑x_3:Int)∧True)∧eqA l.length (j5 l)∧True))∧(decide ((↑x_2:Int) < (↑l.length:Int))=false→(-1:Int)=a4t l x)):=by kernel_rfl
theorem v66 (l:List Int) (x:Int) (h:L40 l.length):q66D l x:=by
 rw[d65]
 simp only[eq_self,true_and,and_true,z0o,imp_self,m5,m6,m9,g7,g9,PLoop.of,p9,AV.len,i5,z0s,j4,j7,j8,l7,l8,l9,b8e]
 refine⟨(),⟨0,⟨by omega,fun q h=>absurd h (z2k _)⟩,rfl⟩,fun j hj=>⟨fun hlt=>?_,fun hlt=>?_⟩⟩
 ·have h1:j < l.length:=by have:=z0e hlt; omega
  refine⟨⟨by omega,by omega⟩,h1,fun he=>?_,fun he=>⟨j + 1,⟨by omega,fun q hq=>?_⟩,by omega,wrS (n:=l.length) h1 h⟩⟩
  ·exact(b3o hj.2 h1 (by simp at he; first | exact he | exact he.symm)).symm
  ·by_cases e:q=j
   ·subst e; simp at he; first | exact he | exact fun h=>he h.symm
   ·exact hj.2 q (by omega)
 ·exact(b5j (fun q hq=>hj.2 q (by have:=z0m hlt; omega))).symm
theorem n66 (nm:List (Option AV)):CallOk Tryz.prog [] 66 (n6 EL none nm [.lf .is,.lf .i] c7y):=x4 Tryz.func66 fo66 fun av pre rv h=>by
 unfold c7y at h; split at h <;> cases h
 exact⟨⟨rfl,fun t a e=>by cases e <;> exact z0h _ _⟩,fun hp=>⟨_,v66 _ _ (hp _ (.head _)),rfl,t6,t7⟩⟩
theorem d7a:o6 Tryz.prog 121:=⟨Tryz.f121,Tryz.func121,by kernel_rfl,by kernel_rfl⟩
def d2n (l:List Int) (x:Int):Prop:=n7 (({ loops:=[(0,.of (b8e l x 8))] }:Kit)).tab Tryz.f121 [.sl 0 l.length,.i .i64 x] [.arr l.length (j5 l)] (l4 (.i .i64 (a4t l x)))
theorem d1a (l:List Int) (x:Int):d2n l x=(∃(x_1:PUnit),(∃(x_2:Nat),(x_2≤l.length∧∀(q:Nat),q < x_2→b6 (0:Int) l q≠x)∧((0:Int)=(↑x_2:Int)∧True)∧True)∧∀(x_2:Nat),(x_2≤l.length∧∀(q:Nat),q < x_2→b6 (0:Int) l q≠x)→(decide ((↑x_2:Int) < (↑l.length:Int))=true→((0:Int)≤(↑x_2:Int)∧(↑x_2:Int) < (↑l.length:Int))∧x_2 < l.length∧((x == b6 (0:Int) l x_2)=true→(↑x_2:Int)=a4t l x)∧((x == b6 (0:Int) l x_2)=false→∃(x_3:Nat),(x_3≤l.length∧∀(q:Nat),q < x_3→b6 (0:Int) l q≠x)∧((PLoop.of (b8e l x (8:Nat))).ann x_1).mu x_3 < ((PLoop.of (b8e l x (8:Nat))).ann x_1).mu x_2∧(l.length=l.length∧x=x∧l.length=l.length∧(↑l.length:Int)=(↑l.length:Int)∧IntKind.i64.wrap ((↑x_2:Int) + (1:Int))=(↑x_3:Int)∧True)∧eqA l.length (j5 l)∧True))∧(decide ((↑x_2:Int) < (↑l.length:Int))=false→(-1:Int)=a4t l x)):=by kernel_rfl
theorem v121 (l:List Int) (x:Int) (h:L40 l.length):d2n l x:=by
 rw[d1a]
 simp only[eq_self,true_and,and_true,z0o,imp_self,m5,m6,m9,g7,g9,PLoop.of,p9,AV.len,i5,z0s,j4,j7,j8,l7,l8,l9,b8e]
 refine⟨(),⟨0,⟨by omega,fun q h=>absurd h (z2k _)⟩,rfl⟩,fun j hj=>⟨fun hlt=>?_,fun hlt=>?_⟩⟩
 ·have h1:j < l.length:=by have:=z0e hlt; omega
  refine⟨⟨by omega,by omega⟩,h1,fun he=>?_,fun he=>⟨j + 1,⟨by omega,fun q hq=>?_⟩,by omega,wrS (n:=l.length) h1 h⟩⟩
  ·exact(b3o hj.2 h1 (by simp at he; first | exact he | exact he.symm)).symm
  ·by_cases e:q=j
   ·subst e; simp at he; first | exact he | exact fun h=>he h.symm
   ·exact hj.2 q (by omega)
 ·exact(b5j (fun q hq=>hj.2 q (by have:=z0m hlt; omega))).symm
theorem n121 (nm:List (Option AV)):CallOk Tryz.prog [] 121 (n6 EL none nm [.lf .is,.lf .i] c7y):=x4 Tryz.func121 d7a fun av pre rv h=>by
 unfold c7y at h; split at h <;> cases h
 exact⟨⟨rfl,fun t a e=>by cases e <;> exact z0h _ _⟩,fun hp=>⟨_,v121 _ _ (hp _ (.head _)),rfl,t6,t7⟩⟩
theorem d7c:o6 Tryz.prog 124:=⟨Tryz.f124,Tryz.func124,by kernel_rfl,by kernel_rfl⟩
def d2p (E:List Ev) (k a:Int):Prop:=n7 (({ loops:=[(0,.of (c3q E k a 8 7))] }:Kit)).tab Tryz.f124 [.sl 0 E.length,.i .i64 k,.i .i64 a] [.arr E.length (l5 E)] (l4 (.i .i64 (c0u E k a)))
theorem d1c (E:List Ev) (k a:Int):d2p E k a=(∃(x:PUnit),(∃(x:Nat),x≤k.toNat∧((0:Int)=(↑x:Int)∧(0:Int)=a1n a E x∧True)∧True)∧∀(x_1:Nat),x_1≤k.toNat→(decide ((↑x_1:Int) < k)=true→((0:Int)≤(↑x_1:Int)∧(↑x_1:Int) < (↑E.length:Int))∧x_1 < E.length∧(((b6 e0 E x_1).ag == a)=true→∃(x_2:Nat),x_2≤k.toNat∧((PLoop.of (c3q E k a (8:Nat) (7:Nat))).ann x).mu x_2 < ((PLoop.of (c3q E k a (8:Nat) (7:Nat))).ann x).mu x_1∧(E.length=E.length∧k=k∧a=a∧(0:Int)=(0:Int)∧IntKind.i64.wrap (a1n a E x_1 + (1:Int))=a1n a E x_2∧IntKind.i64.wrap ((↑x_1:Int) + (1:Int))=(↑x_2:Int)∧True)∧eqA E.length (l5 E)∧True)∧(((b6 e0 E x_1).ag == a)=false→∃(x_2:Nat),x_2≤k.toNat∧((PLoop.of (c3q E k a (8:Nat) (7:Nat))).ann x).mu x_2 < ((PLoop.of (c3q E k a (8:Nat) (7:Nat))).ann x).mu x_1∧(E.length=E.length∧k=k∧a=a∧(0:Int)=(0:Int)∧a1n a E x_1=a1n a E x_2∧IntKind.i64.wrap ((↑x_1:Int) + (1:Int))=(↑x_2:Int)∧True)∧eqA E.length (l5 E)∧True))∧(decide ((↑x_1:Int) < k)=false→a1n a E x_1=c0u E k a)):=by kernel_rfl
theorem v124 (E:List Ev) (k a:Int) (h:(0≤k∧k≤E.length)∧L40 E.length):d2p E k a:=by
 rw[d1c]
 simp only[eq_self,true_and,and_true,z0o,imp_self,m5,m6,m9,g7,g9,PLoop.of,p9,AV.len,i5,z0s,j4,j7,j8,l7,l8,l9,c3q]
 obtain⟨⟨h0,h1⟩,h2⟩:=h
 refine⟨(),⟨0,by omega,rfl,rfl⟩,fun j hj=>⟨fun hlt=>?_,fun hlt=>?_⟩⟩
 ·have h3:j < k.toNat:=by have:=z0e hlt; omega
  have h4:j < E.length:=by omega
  have h5:=b7w a E j
  have h6:=wrS (n:=E.length) h4 h2
  have h7:E.length≤1099511627776:=h2
  refine⟨⟨by omega,by omega⟩,h4,fun he=>⟨j + 1,by omega,by omega,?_,h6⟩,fun he=>⟨j + 1,by omega,by omega,?_,h6⟩⟩
  ·simp only[a1n,he,z0g]
   exact a4c (by omega) (by omega)
  ·simp only[a1n,he,z0l]
 ·have h3:j=k.toNat:=by have:=z0m hlt; omega
  rw[h3]; rfl
theorem n124 (nm:List (Option AV)):CallOk Tryz.prog [] 124 (n6 EL none nm [.lf .es,.lf .i,.lf .i] d4o):=x4 Tryz.func124 d7c fun av pre rv h=>by
 unfold d4o at h; split at h <;> cases h
 exact⟨⟨rfl,fun t a e=>by cases e <;> exact z0h _ _⟩,fun hp=>⟨_,v124 _ _ _ (hp _ (.head _)),rfl,t6,t7⟩⟩
end Go.Proofs.YtaeeaniofljmnaaGreatDoor

/-
  A part of the proof (H27a).
-/
import Derived.Test.YtaeeaniofljmnaaGreatDoorHV
namespace Go.Proofs.YtaeeaniofljmnaaGreatDoor
set_option linter.unusedSimpArgs false
set_option linter.unusedVariables false
open Go Go.Proofs.YtaeeaniofljmnaaGreatDoor.Sx
theorem a4i {E:List Ev} {M:List (List Int)}:∀ {m:Nat},a1b E M m=true↔∀ o:Nat,o < m→a03 E o (u4 M o) (w8 M o)=true:=by
 intro m
 induction m with
 | zero=>simp[a1b]
 | succ m ih =>
  simp only[a1b,z0d,ih]
  constructor
  ·rintro ⟨h1,h2⟩ o ho
   by_cases e:o=m
   ·subst e; exact h2
   ·exact h1 o (by omega)
  ·intro h
   exact⟨fun o ho=>h o (by omega),h m (by omega)⟩
theorem a8f {E:List Ev} {M:List (List Int)}:∀ {m:Nat},(∀ o:Nat,o < m→a03 E o (u4 M o) (w8 M o)=true)→(u4 M m).Nodup∧∀ x∈u4 M m,x∈wrL E E.length:=by
 intro m
 induction m with
 | zero=>intro _; simp[u4]
 | succ m ih =>
  intro h
  obtain⟨h1,h2⟩:=ih fun o ho=>h o (by omega)
  obtain⟨h3,h4⟩:=a21.1 (h m (by omega))
  refine⟨?_,fun x hx=>?_⟩
  ·simp only[u4]
   rw[List.nodup_append]
   exact⟨h1,h4,fun a ha b hb e=>(h3 b hb).2.1 (e ▸ ha)⟩
  ·simp only[u4,z0n] at hx
   rcases hx with hx | hx
   ·exact h2 x hx
   ·obtain⟨a,b,c,d⟩:=h3 x hx
    exact b29.2 ⟨a.1,a.2,c⟩
theorem a24 {E:List Ev} {o x:Int}:a2d E o x=true↔wrE (evA E x)=true∧(evA E x).ob=o:=by simp[a2d]
theorem c3g {E:List Ev} {M:List (List Int)} {o x:Int}:a7y E M o x=true↔(a2d E o x=true→x∈w8 M o):=by
 simp only[a7y,z0v,Bool.and_eq_false_iff,z1g]
 constructor
 ·rintro (h | h) hw
  ·rw[h] at hw; cases hw
  ·exact Classical.byContradiction fun hn=>h (b76.2 hn)
 ·intro h
  cases hw:a2d E o x
  ·exact .inl rfl
  ·exact .inr fun hn=>b76.1 hn (h hw)
theorem a7o {E:List Ev} {M:List (List Int)} {o:Int}:a4d E M o=true↔(∀ x∈wrO E o E.length,x∈w8 M o)∧(w8 M o).length=(wrO E o E.length).length:=by
 simp only[a4d,z0d,beq_iff_eq,a27,c3g,← d27]
 refine and_congr ⟨fun h x hx=>?_,fun h j hj hw=>h _ (a4j.2 ⟨by omega,by omega,hw⟩)⟩ (by omega)
 obtain⟨a,b,c⟩:=a4j.1 hx
 have:=h x.toNat (by omega)
 rw[z1b a] at this
 exact this c
theorem b7c {E:List Ev} {M:List (List Int)} (hl:∀ j:Int,0≤j→j < E.length→wrE (evA E j)=true→0≤(evA E j).ob∧(evA E j).ob < M.length):(a1b E M M.length && (((u4 M M.length).length:Int) == a1w E E.length))=t4 (a4d E M) M.length:=by
 rw[z2w,z0d,beq_iff_eq,a4i,a27,← d26]
 constructor
 ·rintro ⟨h1,h2⟩ o ho
  obtain⟨n1,n2⟩:=a8f h1
  have hall:=b20 n1 n2 (by omega)
  obtain⟨g1,g2⟩:=a21.1 (h1 o ho)
  have hin:∀ x∈wrO E o E.length,x∈w8 M o:=fun x hx=>by
   obtain⟨a,b,c⟩:=a4j.1 hx
   obtain⟨c1,c2⟩:=a24.1 c
   obtain⟨o',ho',hx'⟩:=a8e.1 (hall x (b29.2 ⟨a,b,c1⟩))
   have:=((a21.1 (h1 o' ho')).1 x hx').2.2.2
   have e:o'=o:=by omega
   rw[e] at hx'
   exact hx'
  refine a7o.2 ⟨hin,?_⟩
  have p1:=b0l (b0w (E:=E) (o:=o) (j:=E.length)) hin
  have p2:=b0l g2 (fun x hx=>a4j.2 ⟨(g1 x hx).1.1,(g1 x hx).1.2,a24.2 (g1 x hx).2.2⟩)
  omega
 ·intro h
  have key:∀ o:Nat,o < M.length→(w8 M o).Nodup∧∀ x∈w8 M o,x∈wrO E o E.length:=fun o ho=>by
   obtain⟨h1,h2⟩:=a7o.1 (h o ho)
   exact⟨c4f b0w h1 (by omega),b20 b0w h1 (by omega)⟩
  have hg:∀ o:Nat,o < M.length→a03 E o (u4 M o) (w8 M o)=true:=fun o ho=>by
   obtain⟨k1,k2⟩:=key o ho
   refine a21.2 ⟨fun x hx=>?_,k1⟩
   obtain⟨a,b,c⟩:=a4j.1 (k2 x hx)
   refine⟨⟨a,b⟩,fun hf=>?_,a24.1 c⟩
   obtain⟨o',ho',hx'⟩:=a8e.1 hf
   obtain⟨_,_,c'⟩:=a4j.1 ((key o' (by omega)).2 x hx')
   have e1:=(a24.1 c).2
   have e2:=(a24.1 c').2
   omega
  refine⟨hg,?_⟩
  obtain⟨n1,n2⟩:=a8f hg
  have p1:=b0l n1 n2
  have p2:=b0l (c55 (E:=E) (j:=E.length)) (W:=u4 M M.length) (fun x hx=>by
   obtain⟨a,b,c⟩:=b29.1 hx
   obtain⟨o1,o2⟩:=hl x a b c
   refine a8e.2 ⟨(evA E x).ob.toNat,by omega,?_⟩
   refine(a7o.1 (h (evA E x).ob.toNat (by omega))).1 x (a4j.2 ⟨a,b,a24.2 ⟨c,by omega⟩⟩))
  omega
theorem c4w {L:List Int} (h:L.Nodup):b2k (a2g L)=L.length:=b7r h fun a=>by
 simp only[a2g,List.contains_eq_mem]
 by_cases ha:a∈L <;> simp[ha]
theorem c90 (E:List Ev):∀ j,0≤a1w E j∧a1w E j≤j:=by
 intro j
 induction j with
 | zero=>simp[a1w]
 | succ j ih=>simp only[a1w]; cases wrE (evA E j) <;> simp <;> omega
theorem c27 {E:List Ev} {m:Nat} (a4:a6n E m=true):∀ i:Int,0≤i→i < E.length→wrE (evA E i)=true→0≤(evA E i).ob∧(evA E i).ob < m:=fun i h0 h1 hw=>by
 have h:a61 E m i=true:=by
  have:=a27.1 a4 i.toNat (by omega)
  rwa [z1b h0] at this
 simp only[a61,z0d,hw,Bool.or_true,z1o,z0v,z1g] at h
 have hv:=h.1.1.1.1.1
 simp only[q6,z0d] at hv
 have ho:a1k (evA E i)=true:=hv.1.1.1.1.1.1.1.1.2
 have hk:(evA E i).k=2∨(evA E i).k=5:=by simpa [wrE] using hw
 refine⟨?_,by omega⟩
 rcases hk with hk | hk <;> simp[a1k,hk,t8] at ho <;> omega
theorem b7a {E:List Ev} {o x:Int}:∀ {r L:List Int},a03 E o L (r ++ [x])=(a03 E o L r && (decide (0≤x) && decide (x < E.length) && !(L ++ r).contains x && wrE (evA E x) && (evA E x).ob == o)):=by
 intro r
 induction r with
 | nil=>intro L; simp[a03]
 | cons y r ih =>
  intro L
  simp only[List.cons_append,a03,ih,z1x,List.singleton_append,Bool.and_assoc,List.nil_append]
theorem b7b {E:List Ev} {o:Int} {L r:List Int} (h:a03 E o L r=true) (q:Nat):a03 E o L (r.take q)=true:=by
 obtain⟨h1,h2⟩:=a21.1 h
 exact a21.2 ⟨fun x hx=>h1 x (List.mem_of_mem_take hx),h2.sublist (List.take_sublist _ _)⟩
theorem b9u (L:List Int) (a:Int):(a1e (a2g L a) != 0)=L.contains a:=by
 unfold a2g
 cases L.contains a <;> rfl
theorem b5q (L:List Int) (x a:Int):(bif a == x then some 1 else a2g L a)=a2g (L ++ [x]) a:=by
 unfold a2g
 cases h:a == x
 ·have h2:a≠x:=by simpa using h
  have:(L ++ [x]).contains a=L.contains a:=by
   rw[z2w]; simp[h2]
  rw[this,z0l]
 ·have h2:a=x:=by simpa using h
  have:(L ++ [x]).contains a=true:=by simp[h2]
  rw[this]; rfl
theorem b5w {l:List Int} {q:Nat} (h:q < l.length):l.take (q + 1)=l.take q ++ [b6 0 l q]:=by
 rw[List.take_succ_eq_append_getElem h,q8 0 l q h]
theorem d05 {E:List Ev} {M:List (List Int)} {o q:Nat} (ho:o < M.length) (hl:∀ j:Int,0≤j→j < E.length→wrE (evA E j)=true→0≤(evA E j).ob∧(evA E j).ob < M.length) (h:a03 E o (u4 M o) ((w8 M o).take q)=false):t4 (a4d E M) M.length=false:=by
 rw[← b7c hl]
 have:a1b E M M.length=false:=by
  cases hr:a1b E M M.length
  ·rfl
  ·have:=b7b (a4i.1 hr o ho) q
   rw[h] at this; cases this
 rw[this]; rfl
set_option maxRecDepth 100000
theorem fo33:o6 Tryz.prog 33:=⟨Tryz.f33,Tryz.func33,by kernel_rfl,by kernel_rfl⟩
def q33D (E:List Ev) (R:List Int) (M:List (List Int)):Prop:=n7 (({ g:=true,calls:=[kVe [none,some (.es E),some (.is R),some (.rs M)],kE1 80 rdE,kE1 81 wrE],loops:=[(0,.of (lV1 E R 43 4)),(3,.of (lV2 E M 104 5)),(5,lV3 E M 111 5)] }:Kit)).tab Tryz.f33 [.agg [.sl 1 E.length,.sl 2 R.length,.sl 3 M.length]] (tbl :: grM E R M) (l4 (.b (b8 E R M)))
theorem d5m (E:List Ev) (R:List Int) (M:List (List Int)):q33D E R M=(((decide ((↑E.length:Int) > (64:Int)) || decide ((↑M.length:Int) > (8:Int)) || (↑R.length:Int) != (↑E.length:Int))=false→some tbl=some tbl)∧((decide ((↑E.length:Int) > (64:Int)) || decide ((↑M.length:Int) > (8:Int)) || (↑R.length:Int) != (↑E.length:Int))=false→E.length=E.length)∧((decide ((↑E.length:Int) > (64:Int)) || decide ((↑M.length:Int) > (8:Int)) || (↑R.length:Int) != (↑E.length:Int))=false→nE E)∧((decide ((↑E.length:Int) > (64:Int)) || decide ((↑M.length:Int) > (8:Int)) || (↑R.length:Int) != (↑E.length:Int))=false→E.length≤(1099511627776:Nat)∧(0:Int)≤(↑M.length:Int))∧((decide ((↑E.length:Int) > (64:Int)) || decide ((↑M.length:Int) > (8:Int)) || (↑R.length:Int) != (↑E.length:Int) || !a6n E M.length)=true→false=b8 E R M)∧((decide ((↑E.length:Int) > (64:Int)) || decide ((↑M.length:Int) > (8:Int)) || (↑R.length:Int) != (↑E.length:Int) || !a6n E M.length)=false→∃(x:PUnit),(∃(x:Nat),(x≤E.length∧t4 (a1c E R) x=true)∧((0:Int)=(↑x:Int)∧(0:Int)=a1w E x∧True)∧True)∧∀(x_1:Nat),x_1≤E.length∧t4 (a1c E R) x_1=true→(decide ((↑x_1:Int) < (↑E.length:Int))=true→((0:Int)≤(↑x_1:Int)∧(↑x_1:Int) < (↑E.length:Int))∧x_1 < E.length∧((0:Int)≤(↑x_1:Int)∧(↑x_1:Int) < (↑R.length:Int))∧x_1 < R.length∧((!rdE (b6 e0 E x_1))=true→((b6 (0:Int) R x_1 != (-2:Int))=true
 → false=b8 E R M)∧((b6 (0:Int) R x_1 != (-2:Int))=false→(wrE (b6 e0 E x_1)=true→∃(x_2:Nat),(x_2≤E.length∧t4 (a1c E R) x_2=true)∧((PLoop.of (lV1 E R (43:Nat) (4:Nat))).ann x).mu x_2 < ((PLoop.of (lV1 E R (43:Nat) (4:Nat))).ann x).mu x_1∧((E.length=E.length∧R.length=R.length∧M.length=M.length)∧True∧(↑E.length:Int)=(↑E.length:Int)∧IntKind.i64.wrap (a1w E x_1 + (1:Int))=a1w E x_2∧True∧E.length=E.length∧(↑E.length:Int)=(↑E.length:Int)∧(↑E.length:Int)=(↑E.length:Int)∧decide ((↑E.length:Int) > (64:Int))=decide ((↑E.length:Int) > (64:Int))∧decide ((↑E.length:Int) > (64:Int))=decide ((↑E.length:Int) > (64:Int))∧(decide ((↑E.length:Int) > (64:Int)) || decide ((↑M.length:Int) > (8:Int)))=(decide ((↑E.length:Int) > (64:Int)) || decide ((↑M.length:Int) > (8:Int)))∧(decide ((↑E.length:Int) > (64:Int)) || decide ((↑M.length:Int) > (8:Int)))=(decide ((↑E.length:Int) > (64:Int)) || decide ((↑M.length:Int) > (8:Int)))∧(decide ((↑E.length:Int) > (64:Int)) || decide ((↑M.length:Int) > (8:Int)) || (↑R.length:Int) != (↑E.length:Int))=(decide ((↑E.length:Int) > (64:Int)) || decide ((↑M.length:Int) > (8:Int)) || (↑R.length:Int) != (↑E.length:Int))∧(decide ((↑E.length:Int) > (64:Int)) || decide ((↑M.length:Int) > (8:Int)) || (↑R.length:Int) != (↑E.length:Int))=(decide ((↑E.length:Int) > (64 :
 Int)) || decide ((↑M.length:Int) > (8:Int)) || (↑R.length:Int) != (↑E.length:Int))∧false=false∧True∧E.length=E.length∧(↑E.length:Int)=(↑E.length:Int)∧IntKind.i64.wrap ((↑x_1:Int) + (1:Int))=(↑x_2:Int)∧True)∧eqT∧eqA E.length (l5 E)∧eqA R.length (j5 R)∧eqA M.length (j9 M)∧(E.length=E.length∧R.length=R.length∧M.length=M.length)∧True)∧(wrE (b6 e0 E x_1)=false→∃(x_2:Nat),(x_2≤E.length∧t4 (a1c E R) x_2=true)∧((PLoop.of (lV1 E R (43:Nat) (4:Nat))).ann x).mu x_2 < ((PLoop.of (lV1 E R (43:Nat) (4:Nat))).ann x).mu x_1∧((E.length=E.length∧R.length=R.length∧M.length=M.length)∧True∧(↑E.length:Int)=(↑E.length:Int)∧a1w E x_1=a1w E x_2∧True∧E.length=E.length∧(↑E.length:Int)=(↑E.length:Int)∧(↑E.length:Int)=(↑E.length:Int)∧decide ((↑E.length:Int) > (64:Int))=decide ((↑E.length:Int) > (64:Int))∧decide ((↑E.length:Int) > (64:Int))=decide ((↑E.length:Int) > (64:Int))∧(decide ((↑E.length:Int) > (64:Int)) || decide ((↑M.length:Int) > (8:Int)))=(decide ((↑E.length:Int) > (64:Int)) || decide ((↑M.length:Int) > (8:Int)))∧(decide ((↑E.length:Int) > (64:Int)) || decide ((↑M.length:Int) > (8:Int)))=(decide ((↑E.length:Int) > (64:Int)) || decide ((↑M.length:Int) > (8:Int)))∧(decide ((↑E.length:Int) > (64:Int)) || decide ((↑M.length:Int) > (8:Int)) || (↑R.length:Int) !=
 (↑E.length:Int))=(decide ((↑E.length:Int) > (64:Int)) || decide ((↑M.length:Int) > (8:Int)) || (↑R.length:Int) != (↑E.length:Int))∧(decide ((↑E.length:Int) > (64:Int)) || decide ((↑M.length:Int) > (8:Int)) || (↑R.length:Int) != (↑E.length:Int))=(decide ((↑E.length:Int) > (64:Int)) || decide ((↑M.length:Int) > (8:Int)) || (↑R.length:Int) != (↑E.length:Int))∧false=false∧True∧E.length=E.length∧(↑E.length:Int)=(↑E.length:Int)∧IntKind.i64.wrap ((↑x_1:Int) + (1:Int))=(↑x_2:Int)∧True)∧eqT∧eqA E.length (l5 E)∧eqA R.length (j5 R)∧eqA M.length (j9 M)∧(E.length=E.length∧R.length=R.length∧M.length=M.length)∧True)))∧((!rdE (b6 e0 E x_1))=false→((b6 (0:Int) R x_1 == (-1:Int))=true→(wrE (b6 e0 E x_1)=true→∃(x_2:Nat),(x_2≤E.length∧t4 (a1c E R) x_2=true)∧((PLoop.of (lV1 E R (43:Nat) (4:Nat))).ann x).mu x_2 < ((PLoop.of (lV1 E R (43:Nat) (4:Nat))).ann x).mu x_1∧((E.length=E.length∧R.length=R.length∧M.length=M.length)∧True∧(↑E.length:Int)=(↑E.length:Int)∧IntKind.i64.wrap (a1w E x_1 + (1:Int))=a1w E x_2∧True∧E.length=E.length∧(↑E.length:Int)=(↑E.length:Int)∧(↑E.length:Int)=(↑E.length:Int)∧decide ((↑E.length:Int) > (64:Int))=decide ((↑E.length:Int) > (64:Int))∧decide ((↑E.length:Int) > (64:Int))=decide ((↑E.length:Int) > (64:Int))∧(decide ((↑E.length:Int) > (64 :
 Int)) || decide ((↑M.length:Int) > (8:Int)))=(decide ((↑E.length:Int) > (64:Int)) || decide ((↑M.length:Int) > (8:Int)))∧(decide ((↑E.length:Int) > (64:Int)) || decide ((↑M.length:Int) > (8:Int)))=(decide ((↑E.length:Int) > (64:Int)) || decide ((↑M.length:Int) > (8:Int)))∧(decide ((↑E.length:Int) > (64:Int)) || decide ((↑M.length:Int) > (8:Int)) || (↑R.length:Int) != (↑E.length:Int))=(decide ((↑E.length:Int) > (64:Int)) || decide ((↑M.length:Int) > (8:Int)) || (↑R.length:Int) != (↑E.length:Int))∧(decide ((↑E.length:Int) > (64:Int)) || decide ((↑M.length:Int) > (8:Int)) || (↑R.length:Int) != (↑E.length:Int))=(decide ((↑E.length:Int) > (64:Int)) || decide ((↑M.length:Int) > (8:Int)) || (↑R.length:Int) != (↑E.length:Int))∧false=false∧True∧E.length=E.length∧(↑E.length:Int)=(↑E.length:Int)∧IntKind.i64.wrap ((↑x_1:Int) + (1:Int))=(↑x_2:Int)∧True)∧eqT∧eqA E.length (l5 E)∧eqA R.length (j5 R)∧eqA M.length (j9 M)∧(E.length=E.length∧R.length=R.length∧M.length=M.length)∧True)∧(wrE (b6 e0 E x_1)=false→∃(x_2:Nat),(x_2≤E.length∧t4 (a1c E R) x_2=true)∧((PLoop.of (lV1 E R (43:Nat) (4:Nat))).ann x).mu x_2 < ((PLoop.of (lV1 E R (43:Nat) (4:Nat))).ann x).mu x_1∧((E.length=E.length∧R.length=R.length∧M.length=M.length)∧True∧(↑E.length:Int)=(↑E.length:Int)∧a1w E x_1=a1w E x_2∧True ∧
 E.length=E.length∧(↑E.length:Int)=(↑E.length:Int)∧(↑E.length:Int)=(↑E.length:Int)∧decide ((↑E.length:Int) > (64:Int))=decide ((↑E.length:Int) > (64:Int))∧decide ((↑E.length:Int) > (64:Int))=decide ((↑E.length:Int) > (64:Int))∧(decide ((↑E.length:Int) > (64:Int)) || decide ((↑M.length:Int) > (8:Int)))=(decide ((↑E.length:Int) > (64:Int)) || decide ((↑M.length:Int) > (8:Int)))∧(decide ((↑E.length:Int) > (64:Int)) || decide ((↑M.length:Int) > (8:Int)))=(decide ((↑E.length:Int) > (64:Int)) || decide ((↑M.length:Int) > (8:Int)))∧(decide ((↑E.length:Int) > (64:Int)) || decide ((↑M.length:Int) > (8:Int)) || (↑R.length:Int) != (↑E.length:Int))=(decide ((↑E.length:Int) > (64:Int)) || decide ((↑M.length:Int) > (8:Int)) || (↑R.length:Int) != (↑E.length:Int))∧(decide ((↑E.length:Int) > (64:Int)) || decide ((↑M.length:Int) > (8:Int)) || (↑R.length:Int) != (↑E.length:Int))=(decide ((↑E.length:Int) > (64:Int)) || decide ((↑M.length:Int) > (8:Int)) || (↑R.length:Int) != (↑E.length:Int))∧false=false∧True∧E.length=E.length∧(↑E.length:Int)=(↑E.length:Int)∧IntKind.i64.wrap ((↑x_1:Int) + (1:Int))=(↑x_2:Int)∧True)∧eqT∧eqA E.length (l5 E)∧eqA R.length (j5 R)∧eqA M.length (j9 M)∧(E.length=E.length∧R.length=R.length∧M.length=M.length)∧True))∧((b6 (0:Int) R x_1 == (-1:Int))=false→((decide
 (b6 (0:Int) R x_1 < (0:Int)) || decide (b6 (0:Int) R x_1 ≥ (↑E.length:Int)) || b6 (0:Int) R x_1 == (↑x_1:Int))=false→(0:Int)≤b6 (0:Int) R x_1∧b6 (0:Int) R x_1 < (↑E.length:Int))∧((decide (b6 (0:Int) R x_1 < (0:Int)) || decide (b6 (0:Int) R x_1 ≥ (↑E.length:Int)) || b6 (0:Int) R x_1 == (↑x_1:Int))=false→(b6 (0:Int) R x_1).toNat < E.length)∧((decide (b6 (0:Int) R x_1 < (0:Int)) || decide (b6 (0:Int) R x_1 ≥ (↑E.length:Int)) || b6 (0:Int) R x_1 == (↑x_1:Int) || !wrE (b6 e0 E (b6 (0:Int) R x_1).toNat))=false→(0:Int)≤b6 (0:Int) R x_1∧b6 (0:Int) R x_1 < (↑E.length:Int))∧((decide (b6 (0:Int) R x_1 < (0:Int)) || decide (b6 (0:Int) R x_1 ≥ (↑E.length:Int)) || b6 (0:Int) R x_1 == (↑x_1:Int) || !wrE (b6 e0 E (b6 (0:Int) R x_1).toNat))=false→(b6 (0:Int) R x_1).toNat < E.length)∧((decide (b6 (0:Int) R x_1 < (0:Int)) || decide (b6 (0:Int) R x_1 ≥ (↑E.length:Int)) || b6 (0:Int) R x_1 == (↑x_1:Int) || !wrE (b6 e0 E (b6 (0:Int) R x_1).toNat) || (b6 e0 E (b6 (0:Int) R x_1).toNat).ob != (b6 e0 E x_1).ob)=true→false=b8 E R M)∧((decide (b6 (0:Int) R x_1 < (0:Int)) || decide (b6 (0:Int) R x_1 ≥ (↑E.length:Int)) || b6 (0:Int) R x_1 == (↑x_1:Int) || !wrE (b6 e0 E (b6 (0:Int) R x_1).toNat) || (b6 e0 E (b6 (0:Int) R x_1).toNat).ob != (b6 e0 E x_1).ob)=false→(wrE (b6 e0 E
 x_1)=true→∃(x_2:Nat),(x_2≤E.length∧t4 (a1c E R) x_2=true)∧((PLoop.of (lV1 E R (43:Nat) (4:Nat))).ann x).mu x_2 < ((PLoop.of (lV1 E R (43:Nat) (4:Nat))).ann x).mu x_1∧((E.length=E.length∧R.length=R.length∧M.length=M.length)∧True∧(↑E.length:Int)=(↑E.length:Int)∧IntKind.i64.wrap (a1w E x_1 + (1:Int))=a1w E x_2∧True∧E.length=E.length∧(↑E.length:Int)=(↑E.length:Int)∧(↑E.length:Int)=(↑E.length:Int)∧decide ((↑E.length:Int) > (64:Int))=decide ((↑E.length:Int) > (64:Int))∧decide ((↑E.length:Int) > (64:Int))=decide ((↑E.length:Int) > (64:Int))∧(decide ((↑E.length:Int) > (64:Int)) || decide ((↑M.length:Int) > (8:Int)))=(decide ((↑E.length:Int) > (64:Int)) || decide ((↑M.length:Int) > (8:Int)))∧(decide ((↑E.length:Int) > (64:Int)) || decide ((↑M.length:Int) > (8:Int)))=(decide ((↑E.length:Int) > (64:Int)) || decide ((↑M.length:Int) > (8:Int)))∧(decide ((↑E.length:Int) > (64:Int)) || decide ((↑M.length:Int) > (8:Int)) || (↑R.length:Int) != (↑E.length:Int))=(decide ((↑E.length:Int) > (64:Int)) || decide ((↑M.length:Int) > (8:Int)) || (↑R.length:Int) != (↑E.length:Int))∧(decide ((↑E.length:Int) > (64:Int)) || decide ((↑M.length:Int) > (8:Int)) || (↑R.length:Int) != (↑E.length:Int))=(decide ((↑E.length:Int) > (64:Int)) || decide ((↑M.length:Int) > (8:Int)) || (↑R.length:Int) != (↑E.length:Int))
 ∧ false=false∧True∧E.length=E.length∧(↑E.length:Int)=(↑E.length:Int)∧IntKind.i64.wrap ((↑x_1:Int) + (1:Int))=(↑x_2:Int)∧True)∧eqT∧eqA E.length (l5 E)∧eqA R.length (j5 R)∧eqA M.length (j9 M)∧(E.length=E.length∧R.length=R.length∧M.length=M.length)∧True)∧(wrE (b6 e0 E x_1)=false→∃(x_2:Nat),(x_2≤E.length∧t4 (a1c E R) x_2=true)∧((PLoop.of (lV1 E R (43:Nat) (4:Nat))).ann x).mu x_2 < ((PLoop.of (lV1 E R (43:Nat) (4:Nat))).ann x).mu x_1∧((E.length=E.length∧R.length=R.length∧M.length=M.length)∧True∧(↑E.length:Int)=(↑E.length:Int)∧a1w E x_1=a1w E x_2∧True∧E.length=E.length∧(↑E.length:Int)=(↑E.length:Int)∧(↑E.length:Int)=(↑E.length:Int)∧decide ((↑E.length:Int) > (64:Int))=decide ((↑E.length:Int) > (64:Int))∧decide ((↑E.length:Int) > (64:Int))=decide ((↑E.length:Int) > (64:Int))∧(decide ((↑E.length:Int) > (64:Int)) || decide ((↑M.length:Int) > (8:Int)))=(decide ((↑E.length:Int) > (64:Int)) || decide ((↑M.length:Int) > (8:Int)))∧(decide ((↑E.length:Int) > (64:Int)) || decide ((↑M.length:Int) > (8:Int)))=(decide ((↑E.length:Int) > (64:Int)) || decide ((↑M.length:Int) > (8:Int)))∧(decide ((↑E.length:Int) > (64:Int)) || decide ((↑M.length:Int) > (8:Int)) || (↑R.length:Int) != (↑E.length:Int))=(decide ((↑E.length:Int) > (64:Int)) || decide ((↑M.length:Int) > (8 :
 Int)) || (↑R.length:Int) != (↑E.length:Int))∧(decide ((↑E.length:Int) > (64:Int)) || decide ((↑M.length:Int) > (8:Int)) || (↑R.length:Int) != (↑E.length:Int))=(decide ((↑E.length:Int) > (64:Int)) || decide ((↑M.length:Int) > (8:Int)) || (↑R.length:Int) != (↑E.length:Int))∧false=false∧True∧E.length=E.length∧(↑E.length:Int)=(↑E.length:Int)∧IntKind.i64.wrap ((↑x_1:Int) + (1:Int))=(↑x_2:Int)∧True)∧eqT∧eqA E.length (l5 E)∧eqA R.length (j5 R)∧eqA M.length (j9 M)∧(E.length=E.length∧R.length=R.length∧M.length=M.length)∧True)))))∧(decide ((↑x_1:Int) < (↑E.length:Int))=false→∃(x:PUnit),(∃(x:Nat),(x≤M.length∧a1b E M x=true)∧((0:Int)=(↑x:Int)∧True)∧(∀(x_2:Int),none=a2g (u4 M x) x_2)∧True)∧∀(x_2:Nat),x_2≤M.length∧a1b E M x_2=true→(decide ((↑x_2:Int) < (↑M.length:Int))=true→((0:Int)≤(↑x_2:Int)∧(↑x_2:Int) < (↑M.length:Int))∧x_2 < M.length∧∃(x_3:Nat),(∃(x:Nat),(x≤(w8 M (↑x_3:Int)).length∧x_3 < M.length∧a03 E (↑x_3:Int) (u4 M x_3) (List.take x (w8 M (↑x_3:Int)))=true)∧((0:Int)=(↑x:Int)∧True)∧(∀(x_4:Int),a2g (u4 M x_2) x_4=a2g (u4 M x_3 ++ List.take x (w8 M (↑x_3:Int))) x_4)∧True)∧∀(x_4:Nat),x_4≤(w8 M (↑x_3:Int)).length∧x_3 < M.length∧a03 E (↑x_3:Int) (u4 M x_3) (List.take x_4 (w8 M (↑x_3:Int)))=true →
 (decide ((↑x_4:Int) < (↑(b6 [] M x_2).length:Int))=true→((0:Int)≤(↑x_4:Int)∧(↑x_4:Int) < (↑(b6 [] M x_2).length:Int))∧x_4 < (b6 [] M x_2).length∧((decide (b6 (0:Int) (b6 [] M x_2) x_4 < (0:Int)) || decide (b6 (0:Int) (b6 [] M x_2) x_4 ≥ (↑E.length:Int)) || a1e (a2g (u4 M x_3 ++ List.take x_4 (w8 M (↑x_3:Int))) (b6 (0:Int) (b6 [] M x_2) x_4)) != (0:Int))=false→(0:Int)≤b6 (0:Int) (b6 [] M x_2) x_4∧b6 (0:Int) (b6 [] M x_2) x_4 < (↑E.length:Int))∧((decide (b6 (0:Int) (b6 [] M x_2) x_4 < (0:Int)) || decide (b6 (0:Int) (b6 [] M x_2) x_4 ≥ (↑E.length:Int)) || a1e (a2g (u4 M x_3 ++ List.take x_4 (w8 M (↑x_3:Int))) (b6 (0:Int) (b6 [] M x_2) x_4)) != (0:Int))=false→(b6 (0:Int) (b6 [] M x_2) x_4).toNat < E.length)∧((decide (b6 (0:Int) (b6 [] M x_2) x_4 < (0:Int)) || decide (b6 (0:Int) (b6 [] M x_2) x_4 ≥ (↑E.length:Int)) || a1e (a2g (u4 M x_3 ++ List.take x_4 (w8 M (↑x_3:Int))) (b6 (0:Int) (b6 [] M x_2) x_4)) != (0:Int) || !wrE (b6 e0 E (b6 (0:Int) (b6 [] M x_2) x_4).toNat))=false→(0:Int)≤b6 (0:Int) (b6 [] M x_2) x_4∧b6 (0:Int) (b6 [] M x_2) x_4 < (↑E.length:Int))∧((decide (b6 (0:Int) (b6 [] M x_2) x_4 < (0:Int)) || decide (b6 (0:Int) (b6 [] M x_2) x_4 ≥ (↑E.length:Int)) || a1e (a2g (u4 M x_3 ++ List.take x_4 (w8 M (↑x_3:Int))) (b6 (0:Int) (b6 [] M x_2)
 x_4)) != (0:Int) || !wrE (b6 e0 E (b6 (0:Int) (b6 [] M x_2) x_4).toNat))=false→(b6 (0:Int) (b6 [] M x_2) x_4).toNat < E.length)∧((decide (b6 (0:Int) (b6 [] M x_2) x_4 < (0:Int)) || decide (b6 (0:Int) (b6 [] M x_2) x_4 ≥ (↑E.length:Int)) || a1e (a2g (u4 M x_3 ++ List.take x_4 (w8 M (↑x_3:Int))) (b6 (0:Int) (b6 [] M x_2) x_4)) != (0:Int) || !wrE (b6 e0 E (b6 (0:Int) (b6 [] M x_2) x_4).toNat) || (b6 e0 E (b6 (0:Int) (b6 [] M x_2) x_4).toNat).ob != (↑x_2:Int))=true→false=b8 E R M)∧((decide (b6 (0:Int) (b6 [] M x_2) x_4 < (0:Int)) || decide (b6 (0:Int) (b6 [] M x_2) x_4 ≥ (↑E.length:Int)) || a1e (a2g (u4 M x_3 ++ List.take x_4 (w8 M (↑x_3:Int))) (b6 (0:Int) (b6 [] M x_2) x_4)) != (0:Int) || !wrE (b6 e0 E (b6 (0:Int) (b6 [] M x_2) x_4).toNat) || (b6 e0 E (b6 (0:Int) (b6 [] M x_2) x_4).toNat).ob != (↑x_2:Int))=false→∃(x:Nat),(x≤(w8 M (↑x_3:Int)).length∧x_3 < M.length∧a03 E (↑x_3:Int) (u4 M x_3) (List.take x (w8 M (↑x_3:Int)))=true)∧((lV3 E M (111:Nat) (5:Nat)).ann x_3).mu x < ((lV3 E M (111:Nat) (5:Nat)).ann x_3).mu x_4∧((E.length=E.length∧R.length=R.length∧M.length=M.length)∧True∧(↑E.length:Int)=(↑E.length:Int)∧a1w E x_1=a1w E x_1∧True∧(↑x_2:Int)=(↑x_2:Int)∧(b6 [] M x_2).length=(b6 [] M x_2).length∧True∧E.length=E.length∧(↑E.length:Int) =
 (↑E.length:Int)∧(↑E.length:Int)=(↑E.length:Int)∧decide ((↑E.length:Int) > (64:Int))=decide ((↑E.length:Int) > (64:Int))∧decide ((↑E.length:Int) > (64:Int))=decide ((↑E.length:Int) > (64:Int))∧(decide ((↑E.length:Int) > (64:Int)) || decide ((↑M.length:Int) > (8:Int)))=(decide ((↑E.length:Int) > (64:Int)) || decide ((↑M.length:Int) > (8:Int)))∧(decide ((↑E.length:Int) > (64:Int)) || decide ((↑M.length:Int) > (8:Int)))=(decide ((↑E.length:Int) > (64:Int)) || decide ((↑M.length:Int) > (8:Int)))∧(decide ((↑E.length:Int) > (64:Int)) || decide ((↑M.length:Int) > (8:Int)) || (↑R.length:Int) != (↑E.length:Int))=(decide ((↑E.length:Int) > (64:Int)) || decide ((↑M.length:Int) > (8:Int)) || (↑R.length:Int) != (↑E.length:Int))∧(decide ((↑E.length:Int) > (64:Int)) || decide ((↑M.length:Int) > (8:Int)) || (↑R.length:Int) != (↑E.length:Int))=(decide ((↑E.length:Int) > (64:Int)) || decide ((↑M.length:Int) > (8:Int)) || (↑R.length:Int) != (↑E.length:Int))∧false=false∧True∧E.length=E.length∧(↑E.length:Int)=(↑E.length:Int)∧(↑x_1:Int)=(↑x_1:Int)∧false=false∧True∧True∧M.length=M.length∧(↑M.length:Int)=(↑M.length:Int)∧(↑x_2:Int)=(↑x_2:Int)∧true=true∧(↑x_2:Int)=(↑x_2:Int)∧x_2=x_2∧(b6 [] M x_2).length=(b6 [] M x_2).length∧(b6 [] M x_2).length=(b6 [] M x_2).length∧(↑(b6 [] M
 x_2).length:Int)=(↑(b6 [] M x_2).length:Int)∧IntKind.i64.wrap ((↑x_4:Int) + (1:Int))=(↑x:Int)∧True)∧eqT∧eqA E.length (l5 E)∧eqA R.length (j5 R)∧eqA M.length (j9 M)∧(E.length=E.length∧R.length=R.length∧M.length=M.length)∧(∀(x_5:Int),(bif x_5 == b6 (0:Int) (b6 [] M x_2) x_4 then some (bif true then(1:Int) else(0:Int)) else a2g (u4 M x_3 ++ List.take x_4 (w8 M (↑x_3:Int))) x_5)=a2g (u4 M x_3 ++ List.take x (w8 M (↑x_3:Int))) x_5)∧eqA (b6 [] M x_2).length [Col.int IntKind.i64 fun(i:Nat)=>b6 (0:Int) (b6 [] M x_2) i]∧True))∧(decide ((↑x_4:Int) < (↑(b6 [] M x_2).length:Int))=false→∃(x_5:Nat),(x_5≤M.length∧a1b E M x_5=true)∧((PLoop.of (lV2 E M (104:Nat) (5:Nat))).ann x).mu x_5 < ((PLoop.of (lV2 E M (104:Nat) (5:Nat))).ann x).mu x_2∧((E.length=E.length∧R.length=R.length∧M.length=M.length)∧True∧(↑E.length:Int)=(↑E.length:Int)∧a1w E x_1=a1w E x_1∧True∧True∧E.length=E.length∧(↑E.length:Int)=(↑E.length:Int)∧(↑E.length:Int)=(↑E.length:Int)∧decide ((↑E.length:Int) > (64:Int))=decide ((↑E.length:Int) > (64:Int))∧decide ((↑E.length:Int) > (64:Int))=decide ((↑E.length:Int) > (64:Int))∧(decide ((↑E.length:Int) > (64:Int)) || decide ((↑M.length:Int) > (8:Int)))=(decide ((↑E.length:Int) > (64:Int)) || decide ((↑M.length:Int) > (8:Int)))∧(decide ((↑E.length :
 Int) > (64:Int)) || decide ((↑M.length:Int) > (8:Int)))=(decide ((↑E.length:Int) > (64:Int)) || decide ((↑M.length:Int) > (8:Int)))∧(decide ((↑E.length:Int) > (64:Int)) || decide ((↑M.length:Int) > (8:Int)) || (↑R.length:Int) != (↑E.length:Int))=(decide ((↑E.length:Int) > (64:Int)) || decide ((↑M.length:Int) > (8:Int)) || (↑R.length:Int) != (↑E.length:Int))∧(decide ((↑E.length:Int) > (64:Int)) || decide ((↑M.length:Int) > (8:Int)) || (↑R.length:Int) != (↑E.length:Int))=(decide ((↑E.length:Int) > (64:Int)) || decide ((↑M.length:Int) > (8:Int)) || (↑R.length:Int) != (↑E.length:Int))∧false=false∧True∧E.length=E.length∧(↑E.length:Int)=(↑E.length:Int)∧(↑x_1:Int)=(↑x_1:Int)∧false=false∧True∧True∧M.length=M.length∧(↑M.length:Int)=(↑M.length:Int)∧IntKind.i64.wrap ((↑x_2:Int) + (1:Int))=(↑x_5:Int)∧True)∧eqT∧eqA E.length (l5 E)∧eqA R.length (j5 R)∧eqA M.length (j9 M)∧(E.length=E.length∧R.length=R.length∧M.length=M.length)∧(∀(x:Int),a2g (u4 M x_3 ++ List.take x_4 (w8 M (↑x_3:Int))) x=a2g (u4 M x_5) x)∧True))∧(decide ((↑x_2:Int) < (↑M.length:Int))=false→((↑(b2k (a2g (u4 M x_2))):Int) == a1w E x_1)=b8 E R M)))):=by kernel_rfl
theorem v33 (E:List Ev) (R:List Int) (M:List (List Int)) (h:SzG E M):q33D E R M:=by
 rw[d5m]
 have hL:E.length≤1099511627776:=h.1
 have hrow:M.length≤8→∀ o,o < M.length→(b6 [] M o).length≤1099511627776:=fun h8 o ho=>h.2 h8 _ (by rw[q8 [] M _ ho]; exact z2e ho)
 simp only[eq_self,true_and,and_true,z0o,imp_self,m5,m6,m9,g7,g9,PLoop.of,p9,AV.len,i5,z0s,j4,j7,j8,l7,l8,l9,lV1,lV2,lV3]
 refine⟨fun _=>⟨hL,by omega⟩,fun h1=>?_,fun h1=>?_⟩
 ·cases hv:b8 E R M with
  | false=>rfl
  | true =>
   exfalso
   simp only[b8,z0d,z1p] at hv
   obtain⟨⟨⟨⟨⟨a1,a2⟩,a3⟩,a4⟩,a5⟩,a6⟩:=hv
   simp[a4,a2] at h1
   omega
 have hh:E.length≤64∧R.length=E.length∧M.length≤8∧a6n E M.length=true:=by
  simp at h1
  refine⟨?_,?_,?_,?_⟩ <;> first | omega | exact h1.2
 clear h1
 obtain⟨a1,a2,a3,a4⟩:=hh
 have hrow:=hrow a3
 have hv:b8 E R M=(t4 (a1c E R) E.length && t4 (a4d E M) M.length):=by simp[b8,a1,a2,a3,a4]
 have hob:=c27 a4
 refine⟨(),⟨0,⟨by omega,rfl⟩,rfl,rfl⟩,fun j hj=>⟨fun hlt=>?_,fun hlt=>?_⟩⟩
 ·have hj2:j < E.length:=by have:=z0e hlt; omega
  have hw1:=wrS (n:=E.length) hj2 hL
  have hc:=c90 E j
  have e:a1c E R j=bif !rdE (b6 e0 E j) then b6 0 R j == -2 else bif (decide (b6 0 R j < 0) || decide (b6 0 R j ≥ E.length)) then b6 0 R j == -1 else b6 0 R j != j && wrE (b6 e0 E (b6 0 R j).toNat) && (b6 e0 E (b6 0 R j).toNat).ob == (b6 e0 E j).ob:=rfl
  have bad:a1c E R j=false→false=b8 E R M:=fun hb=>by rw[hv,a35 (j:=j) hj2 hb]; rfl
  have next:a1c E R j=true→(wrE (b6 e0 E j)=true→∃ x_2,(x_2≤E.length∧t4 (a1c E R) x_2=true)∧E.length - x_2 < E.length - j∧IntKind.i64.wrap (a1w E j + 1)=a1w E x_2∧IntKind.i64.wrap (↑j + 1)=((x_2:Nat):Int))∧(wrE (b6 e0 E j)=false→∃ x_2,(x_2≤E.length∧t4 (a1c E R) x_2=true)∧E.length - x_2 < E.length - j∧a1w E j=a1w E x_2∧IntKind.i64.wrap (↑j + 1)=((x_2:Nat):Int)):=fun hs=>by
   have ha:t4 (a1c E R) (j + 1)=true:=by simp only[t4,hj.2,z1o]; exact hs
   have ew:wrE (evA E j)=wrE (b6 e0 E j):=rfl
   refine⟨fun hw=>⟨j + 1,⟨by omega,ha⟩,by omega,?_,hw1⟩,fun hw=>⟨j + 1,⟨by omega,ha⟩,by omega,?_,hw1⟩⟩
   ·simp only[a1w]; rw[ew,hw,z0g]; exact a4c (by omega) (by omega)
   ·simp only[a1w]; rw[ew,hw,z0l]
  have hin:∀ {q:Bool},((decide (b6 0 R j < 0) || decide (b6 0 R j ≥ ↑E.length) || q)=false)→0≤b6 0 R j∧b6 0 R j < ↑E.length:=fun {q} h=>by
   simp only[z1n,z1g] at h; omega
  have up:∀ {p q:Bool},(p || q)=false→p=false:=fun h=>(z1n.1 h).1
  refine⟨⟨by omega,by omega⟩,hj2,⟨by omega,by omega⟩,by omega,fun hr=>⟨fun h2=>bad ?_,fun h2=>next ?_⟩,fun hr=>⟨fun h2=>next ?_,fun h2=>⟨fun h3=>hin h3,fun h3=>a0l (hin h3),fun h3=>hin (up h3),fun h3=>a0l (hin (up h3)),fun h3=>bad ?_,fun h3=>next ?_⟩⟩⟩
  ·rw[e,hr,z0g]; simpa using h2
  ·rw[e,hr,z0g]; simpa using h2
  ·rw[e,hr,z0l]
   have h2:b6 0 R j = -1:=by simpa using h2
   rw[h2]; rfl
  ·rw[e,hr,z0l]
   have h2:b6 0 R j≠-1:=by simpa using h2
   cases hb:(decide (b6 0 R j < 0) || decide (b6 0 R j ≥ ↑E.length))
   ·rw[hb] at h3
    rw[z0l]
    simp only[Bool.false_or,z1q,beq_iff_eq,z0v,bne_iff_ne] at h3
    rcases h3 with(h3 | h3) | h3 <;> simp[h3]
   ·rw[z0g]; simpa using h2
  ·rw[e,hr,z0l]
   simp only[z1n] at h3
   obtain⟨⟨⟨⟨b1,b2⟩,b3⟩,b4⟩,b5⟩:=h3
   rw[b1,b2]
   simp at b3 b4 b5
   simp[b3,b4,b5]
 have hj2:j=E.length:=by have:=z0m hlt; omega
 have hsrc:t4 (a1c E R) E.length=true:=by have:=hj.2; rwa [hj2] at this
 rw[hv,hsrc,z1o]
 subst hj2
 refine⟨(),⟨0,⟨by omega,rfl⟩,rfl,fun _=>rfl⟩,fun o ho=>⟨fun hlo=>?_,fun hlo=>?_⟩⟩
 ·have ho2:o < M.length:=by have:=z0e hlo; omega
  have hro:w8 M o=b6 [] M o:=rfl
  refine⟨⟨by omega,by omega⟩,ho2,o,⟨0,⟨by omega,ho2,rfl⟩,rfl,fun x=>by simp⟩,fun q hq=>⟨fun hlq=>?_,fun hlq=>?_⟩⟩
  ·have hq2:q < (b6 [] M o).length:=by have:=z0e hlq; omega
   simp only[b9u]
   have e:a03 E o (u4 M o) ((w8 M o).take (q + 1))=(decide (0≤b6 0 (b6 [] M o) q) && decide (b6 0 (b6 [] M o) q < E.length) && !(u4 M o ++ (w8 M o).take q).contains (b6 0 (b6 [] M o) q) && wrE (b6 e0 E (b6 0 (b6 [] M o) q).toNat) && (b6 e0 E (b6 0 (b6 [] M o) q).toNat).ob == o):=by
    have h3:(w8 M o).take (q + 1)=(w8 M o).take q ++ [b6 0 (w8 M o) q]:=b5w (by rw[hro]; exact hq2)
    rw[h3,b7a,hq.2.2,z1o]; rfl
   generalize hx:b6 0 (b6 [] M o) q=x at *
   have hin:∀ {p:Bool},((decide (x < 0) || decide (x ≥ ↑E.length) || p)=false)→0≤x∧x < ↑E.length:=fun {p} h=>by
    simp only[z1n,z1g] at h; omega
   have up:∀ {p q:Bool},(p || q)=false→p=false:=fun h=>(z1n.1 h).1
   refine⟨⟨by omega,by omega⟩,hq2,fun h3=>hin h3,fun h3=>a0l (hin h3),fun h3=>hin (up h3),fun h3=>a0l (hin (up h3)),fun h3=>?_,fun h3=>⟨q + 1,⟨?_,ho2,?_⟩,?_,wrS (n:=(b6 [] M o).length) hq2 (hrow o ho2),fun a=>?_⟩⟩
   ·refine(d05 (q:=q + 1) ho2 hob ?_).symm
    rw[e]
    by_cases b1:x < 0
    ·have:decide (0≤x)=false:=by simp; omega
     rw[this]; simp
    by_cases b2:x ≥ E.length
    ·have:decide (x < (E.length:Int))=false:=by simp; omega
     rw[this]; simp
    have c1:decide (x < 0)=false:=by simp; omega
    have c2:decide (x ≥ (E.length:Int))=false:=by simp; omega
    rw[c1,c2] at h3
    simp only[Bool.false_or,z1q,z0v,bne_iff_ne] at h3
    rcases h3 with(h3 | h3) | h3
    ·rw[h3]; simp
    ·rw[h3]; simp
    ·have:((b6 e0 E x.toNat).ob == (o:Int))=false:=by simpa using h3
     rw[this]; simp
   ·rw[hro]; omega
   ·rw[e]
    simp only[z1n,z1g] at h3
    obtain⟨⟨⟨⟨b1,b2⟩,b3⟩,b4⟩,b5⟩:=h3
    have c1:decide (0≤x)=true:=by simp; omega
    have c2:decide (x < (E.length:Int))=true:=by simp; omega
    rw[c1,c2,b3]
    simp at b4 b5
    simp[b4,b5]
   ·rw[hro]; omega
   ·have h3:(w8 M o).take (q + 1)=(w8 M o).take q ++ [b6 0 (w8 M o) q]:=b5w (by rw[hro]; exact hq2)
    rw[h3,hro,hx,← z1x]
    exact b5q _ x a
  ·have hq2:q=(b6 [] M o).length:=by have:=z0m hlq; have:=hq.1; rw[hro] at this; omega
   have ht:(w8 M o).take q=w8 M o:=by rw[hq2,← hro,z3m]
   have hg:=hq.2.2
   rw[ht] at hg ⊢
   refine⟨o + 1,⟨by omega,?_⟩,by omega,wrS (n:=M.length) ho2 (by omega),fun x=>rfl⟩
   simp only[a1b,ho.2,z1o]; exact hg
 ·have ho2:o=M.length:=by have:=z0m hlo; omega
  subst ho2
  have hg:=ho.2
  rw[c4w (a8f (E:=E) (a4i.1 hg)).1,← b7c hob,hg,z1o]
theorem n33 (nm:List (Option AV)):CallOk Tryz.prog GL 33 (n6 EL gbT nm [PG] c4u):=a4r Tryz.func33 fo33 fun av pre rv h=>by
 unfold c4u at h; split at h <;> cases h
 exact⟨⟨rfl,fun t a e=>by cases e <;> exact z0h _ _⟩,fun hp=>⟨_,v33 _ _ _ (hp _ (.head _)),rfl,(m4 (n79 _) (m4 (a11 (n80 _)) (m4 (a11 (n81 _)) t6))),t7⟩⟩
def a3k (nm:List (Option AV)):Nat × (List MBlk→List SV→Option AR):=(33,n6 EL gbT nm [PG] c4u)
def a48 (f:Int→Option Int) (l:List Int):Nat→Int→Option Int
 | 0=>f
 | q + 1=>fun a=>bif a == b6 0 l q then some (q:Int) else a48 f l q a
def a8m (M:List (List Int)):Nat→Int→Option Int
 | 0=>fun _=>none
 | o + 1=>a48 (a8m M o) (w8 M o) (w8 M o).length
def plM (M:List (List Int)):Int→Option Int:=a8m M M.length
def lP1 (M:List (List Int)) (t r:Nat):LAnn:=p9 M.length t (fun _=>True) (fun o=>[(r,.mapi .i64 (some .i64) (a8m M o))]) []
def lP2 (M:List (List Int)) (t r:Nat):PLoop:=⟨Nat,fun o=>{ X:=Nat,inv:=fun q=>q≤(w8 M o).length∧o < M.length,slots:=fun q=>[(t,.i .i64 (q:Int))],mem:=fun q=>[(r,.mapi .i64 (some .i64) (a48 (a8m M o) (w8 M o) q))],mu:=fun q=>(w8 M o).length - q,kill:=[] }⟩
def sPl:SpG:=fun
 | [.ag [.es E,.is R,.rs M]]=>some ([SzG E M∧M.length≤8],.m1 .i64 (some .i64) (plM M))
 | _=>none
def kPl (nm:List (Option AV)):Nat × (List MBlk→List SV→Option AR):=(104,n6 EL none nm [PG] sPl)
theorem d6v:o6 Tryz.prog 104:=⟨Tryz.f104,Tryz.func104,by kernel_rfl,by kernel_rfl⟩
def d2h (E:List Ev) (R:List Int) (M:List (List Int)):Prop:=n7 (({ loops:=[(0,.of (lP1 M 12 4)),(2,lP2 M 18 4)] }:Kit)).tab Tryz.f104 [grV E R M] (grM E R M) ((QV.m1 .i64 (some .i64) (plM M)).post EL)
theorem d0x (E:List Ev) (R:List Int) (M:List (List Int)):d2h E R M=(∃(x:PUnit),(∃(x:Nat),(x≤M.length∧True)∧((0:Int)=(↑x:Int)∧True)∧(∀(x_1:Int),none=a8m M x x_1)∧True)∧∀(x_1:Nat),x_1≤M.length∧True→(decide ((↑x_1:Int) < (↑M.length:Int))=true→((0:Int)≤(↑x_1:Int)∧(↑x_1:Int) < (↑M.length:Int))∧x_1 < M.length∧∃(x_2:Nat),(∃(x:Nat),(x≤(w8 M (↑x_2:Int)).length∧x_2 < M.length)∧((0:Int)=(↑x:Int)∧True)∧(∀(x_3:Int),a8m M x_1 x_3=a48 (a8m M x_2) (w8 M (↑x_2:Int)) x x_3)∧True)∧∀(x_3:Nat),x_3≤(w8 M (↑x_2:Int)).length∧x_2 < M.length→(decide ((↑x_3:Int) < (↑(b6 [] M x_1).length:Int))=true→((0:Int)≤(↑x_3:Int)∧(↑x_3:Int) < (↑(b6 [] M x_1).length:Int))∧x_3 < (b6 [] M x_1).length∧∃(x:Nat),(x≤(w8 M (↑x_2:Int)).length∧x_2 < M.length)∧((lP2 M (18:Nat) (4:Nat)).ann x_2).mu x < ((lP2 M (18:Nat) (4:Nat)).ann x_2).mu x_3∧((E.length=E.length∧R.length=R.length∧M.length=M.length)∧True∧True∧True∧(b6 [] M x_1).length=(b6 [] M x_1).length∧True∧True∧M.length=M.length∧(↑M.length:Int)=(↑M.length:Int)∧(↑x_1:Int)=(↑x_1:Int)∧true=true∧x_1=x_1∧(b6 [] M x_1).length=(b6 [] M x_1).length∧(b6 [] M x_1).length=(b6 [] M x_1).length∧(↑(b6 [] M x_1).length:Int)=(↑(b6 [] M x_1).length:Int)∧IntKind.i64.wrap ((↑x_3:Int) + (1:Int))=(↑x:Int)∧True)∧eqA E.length (l5 E)∧eqA R.length (j5 R)∧eqA M.length (j9
 M)∧(E.length=E.length∧R.length=R.length∧M.length=M.length)∧(∀(x_4:Int),(bif x_4 == b6 (0:Int) (b6 [] M x_1) x_3 then some (↑x_3:Int) else a48 (a8m M x_2) (w8 M (↑x_2:Int)) x_3 x_4)=a48 (a8m M x_2) (w8 M (↑x_2:Int)) x x_4)∧eqA (b6 [] M x_1).length [Col.int IntKind.i64 fun(i:Nat)=>b6 (0:Int) (b6 [] M x_1) i]∧True)∧(decide ((↑x_3:Int) < (↑(b6 [] M x_1).length:Int))=false→∃(x_4:Nat),(x_4≤M.length∧True)∧((PLoop.of (lP1 M (12:Nat) (4:Nat))).ann x).mu x_4 < ((PLoop.of (lP1 M (12:Nat) (4:Nat))).ann x).mu x_1∧((E.length=E.length∧R.length=R.length∧M.length=M.length)∧True∧True∧True∧True∧True∧M.length=M.length∧(↑M.length:Int)=(↑M.length:Int)∧IntKind.i64.wrap ((↑x_1:Int) + (1:Int))=(↑x_4:Int)∧True)∧eqA E.length (l5 E)∧eqA R.length (j5 R)∧eqA M.length (j9 M)∧(E.length=E.length∧R.length=R.length∧M.length=M.length)∧(∀(x:Int),a48 (a8m M x_2) (w8 M (↑x_2:Int)) x_3 x=a8m M x_4 x)∧True))∧(decide ((↑x_1:Int) < (↑M.length:Int))=false→∀(j:Int),a8m M x_1 j=plM M j)):=by kernel_rfl
theorem v104 (E:List Ev) (R:List Int) (M:List (List Int)) (h:SzG E M∧M.length≤8):d2h E R M:=by
 rw[d0x]
 have hM:M.length≤8:=h.2
 have hrow:∀ o,o < M.length→(b6 [] M o).length≤1099511627776:=fun o ho=>h.1.2 h.2 _ (by rw[q8 [] M _ ho]; exact z2e ho)
 simp only[eq_self,true_and,and_true,z0o,imp_self,m5,m6,m9,g7,g9,PLoop.of,p9,AV.len,i5,z0s,j4,j7,j8,l7,l8,l9,lP1,lP2]
 refine⟨(),⟨0,by omega,rfl,fun _=>rfl⟩,fun o ho=>⟨fun hlo=>?_,fun hlo=>?_⟩⟩
 ·have ho2:o < M.length:=by have:=z0e hlo; omega
  have hro:w8 M o=b6 [] M o:=rfl
  refine⟨⟨by omega,by omega⟩,ho2,o,⟨0,⟨by omega,ho2⟩,rfl,fun _=>rfl⟩,fun q hq=>⟨fun hlq=>?_,fun hlq=>?_⟩⟩
  ·have hq2:q < (b6 [] M o).length:=by have:=z0e hlq; omega
   exact⟨⟨by omega,by omega⟩,hq2,q + 1,⟨by rw[hro]; omega,ho2⟩,by rw[hro]; omega,wrS (n:=(b6 [] M o).length) hq2 (hrow o ho2),fun _=>rfl⟩
  ·have hq2:q=(b6 [] M o).length:=by have:=z0m hlq; have:=hq.1; rw[hro] at this; omega
   exact⟨o + 1,by omega,by omega,wrS (n:=M.length) ho2 (by omega),fun x=>by rw[hq2,← hro]; rfl⟩
 ·have ho2:o=M.length:=by have:=z0m hlo; omega
  subst ho2
  exact fun _=>rfl
theorem n104 (nm:List (Option AV)):CallOk Tryz.prog [] 104 (n6 EL none nm [PG] sPl):=x4 Tryz.func104 d6v fun av pre rv h=>by
 unfold sPl at h; split at h <;> cases h
 exact⟨⟨rfl,fun t a e=>by cases e <;> exact z0h _ _⟩,fun hp=>⟨_,v104 _ _ _ (hp _ (.head _)),rfl,t6,t7⟩⟩
def i4:GF:=fun E _ M i k=>wrE (evA E i) && wrE (evA E k) && (evA E i).ob == (evA E k).ob && decide (a1e (plM M i) < a1e (plM M k))
def g8:GF:=fun E R M i k=>!(i == k) && rdE (evA E i) && wrE (evA E k) && (evA E i).ob == (evA E k).ob && (decide (inA R i < 0) || decide (a1e (plM M (inA R i)) < a1e (plM M k)))
end Go.Proofs.YtaeeaniofljmnaaGreatDoor

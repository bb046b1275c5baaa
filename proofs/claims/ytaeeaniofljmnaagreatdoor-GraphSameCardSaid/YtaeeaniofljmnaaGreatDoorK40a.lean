/-
  A part of the proof (K40a).
-/
import Derived.Test.YtaeeaniofljmnaaGreatDoorK35a
namespace Go.Proofs.YtaeeaniofljmnaaGreatDoor
set_option linter.unusedSimpArgs false
set_option linter.unusedVariables false
open Go Go.Proofs.YtaeeaniofljmnaaGreatDoor.Sx
set_option maxRecDepth 100000
theorem a14 {E:List Ev} {R:List Int} {M:List (List Int)} (hv:b8 E R M=true):M.length≤8∧R.length=E.length:=by
 simp only[b8,z0d,z1m] at hv
 exact⟨hv.1.1.1.2,hv.1.1.1.1.2⟩
theorem fo47:s5 Tryz.prog 47:=⟨Tryz.f47,Tryz.func47,by kernel_rfl,by kernel_rfl⟩
theorem c2j {l:List (Nat × PLoop)} {t:List (Nat × (List Slot→List MBlk→List Gh))} {s:List Nat}:a2x (47,⟨Tryz.f47,l,t,s⟩):=⟨Tryz.func47,fo47⟩
theorem fo25:s5 Tryz.prog 25:=⟨Tryz.f25,Tryz.func25,by kernel_rfl,by kernel_rfl⟩
theorem fo75:s5 Tryz.prog 75:=⟨Tryz.f75,Tryz.func75,by kernel_rfl,by kernel_rfl⟩
theorem ii75 {l:List (Nat × PLoop)} {t:List (Nat × (List Slot→List MBlk→List Gh))} {s:List Nat}:a2x (75,⟨Tryz.f75,l,t,s⟩):=⟨Tryz.func75,fo75⟩
def q25D (E:List Ev) (R:List Int) (M:List (List Int)):Prop:=s4 (({ g:=true,calls:=[a5d (nmT E R M),kRl 55 (b6h pgE poG) (nmT E R M)],inl:=c2q 75 Tryz.f75 }:Kit)).tab Tryz.f25 [b2r E R M] (grT E R M) ((b5e (b8 E R M) E.length (b9 E.length (poG E R M))).post EL)
theorem d8l (E:List Ev) (R:List Int) (M:List (List Int)):q25D E R M=(
 let a:=b9 (↑E.length:Int) (poG E R M)
 let b:=AV.ps (n6 (b8 E R M) a)
 let c:=(0:Int)
 let d:=(↑E.length:Int)
 ∀(us:List Value),some tbl=some tbl∧E.length=E.length∧R.length=R.length∧M.length=M.length∧nE E∧nI R∧nR M∧(E.length≤(1099511627776:Nat)∧(M.length≤(8:Nat)→∀(r:List Int),List.Mem r M→r.length≤(1099511627776:Nat)))∧((!b8 E R M)=true→us=us∧b.len=(0:Nat)∧((c=bif b8 E R M then d else c)∧b.len=(0:Nat)∧True)∧((1:Int)=bif b8 E R M then c else(1:Int))∧True)∧((!b8 E R M)=false→∀(us_1:List Value),E.length=E.length∧R.length=R.length∧M.length=M.length∧nE E∧nI R∧nR M∧d≤(64:Int)∧us_1=us_1∧us=us∧(AV.ps a).len=b.len∧((∀(j:Nat),j < b.len→(b7 (c,c) a j).fst=(b7 (c,c) (n6 (b8 E R M) a) j).fst)∧(∀(j:Nat),j < b.len→(b7 (c,c) a j).snd=(b7 (c,c) (n6 (b8 E R M) a) j).snd)∧True)∧((d=bif b8 E R M then d else c)∧(AV.ps a).len=b.len∧True)∧(c=bif b8 E R M then c else(1:Int))∧True)):=by kernel_rfl
theorem v25 (E:List Ev) (R:List Int) (M:List (List Int)) (h:SzG E M):q25D E R M:=by
 rw[d8l]
 cases hv:b8 E R M
 ·simp only[eq_self,true_and,and_true,z0o,imp_self,o6,o8,p7,i7,i9,PLoop.of,s8,AV.len,j4,z0u,l4,l5,l6,m8,m9,n5,n6,z0l,z2z]
  exact⟨⟨h.1,h.2⟩,by simp⟩
 ·obtain⟨hG,hN⟩:=a0g hv h
  obtain⟨hM,hR⟩:=a14 hv
  simp only[eq_self,true_and,and_true,z0o,imp_self,o6,o8,p7,i7,i9,PLoop.of,s8,AV.len,j4,z0u,l4,l5,l6,m8,m9,n5,n6,z0f,z3j]
  refine⟨⟨h.1,h.2⟩,by simp,?_⟩
  first | exact(by omega) | omega
theorem n25 (nm:List (Option AV)):CallOk Tryz.prog GL 25 (q6 EL gbT nm [PG] (a5k poG)):=a5i Tryz.func25 fo25 fun av pre rv h=>by
 unfold a5k at h; split at h <;> cases h
 exact⟨⟨rfl,fun t a e=>by cases e <;> exact z0h _ _⟩,fun hp=>⟨_,v25 _ _ _ (hp _ (.head _)),rfl,(o5 (n33 _) (o5 (a1n (n55 _)) v4)),(a3y c2j (a3y ii75 v5))⟩⟩
theorem fo27:s5 Tryz.prog 27:=⟨Tryz.f27,Tryz.func27,by kernel_rfl,by kernel_rfl⟩
theorem fo76:s5 Tryz.prog 76:=⟨Tryz.f76,Tryz.func76,by kernel_rfl,by kernel_rfl⟩
theorem ii76 {l:List (Nat × PLoop)} {t:List (Nat × (List Slot→List MBlk→List Gh))} {s:List Nat}:a2x (76,⟨Tryz.f76,l,t,s⟩):=⟨Tryz.func76,fo76⟩
def q27D (E:List Ev) (R:List Int) (M:List (List Int)):Prop:=s4 (({ g:=true,calls:=[a5d (nmT E R M),kRl 61 (b6h pgR rfG) (nmT E R M)],inl:=c2q 76 Tryz.f76 }:Kit)).tab Tryz.f27 [b2r E R M] (grT E R M) ((b5e (b8 E R M) E.length (b9 E.length (rfG E R M))).post EL)
theorem d8m (E:List Ev) (R:List Int) (M:List (List Int)):q27D E R M=(
 let a:=b9 (↑E.length:Int) (rfG E R M)
 let b:=AV.ps (n6 (b8 E R M) a)
 let c:=(0:Int)
 let d:=(↑E.length:Int)
 ∀(us:List Value),some tbl=some tbl∧E.length=E.length∧R.length=R.length∧M.length=M.length∧nE E∧nI R∧nR M∧(E.length≤(1099511627776:Nat)∧(M.length≤(8:Nat)→∀(r:List Int),List.Mem r M→r.length≤(1099511627776:Nat)))∧((!b8 E R M)=true→us=us∧b.len=(0:Nat)∧((c=bif b8 E R M then d else c)∧b.len=(0:Nat)∧True)∧((1:Int)=bif b8 E R M then c else(1:Int))∧True)∧((!b8 E R M)=false→∀(us_1:List Value),E.length=E.length∧R.length=R.length∧M.length=M.length∧nE E∧nI R∧nR M∧(d≤(64:Int)∧R.length=E.length)∧us_1=us_1∧us=us∧(AV.ps a).len=b.len∧((∀(j:Nat),j < b.len→(b7 (c,c) a j).fst=(b7 (c,c) (n6 (b8 E R M) a) j).fst)∧(∀(j:Nat),j < b.len→(b7 (c,c) a j).snd=(b7 (c,c) (n6 (b8 E R M) a) j).snd)∧True)∧((d=bif b8 E R M then d else c)∧(AV.ps a).len=b.len∧True)∧(c=bif b8 E R M then c else(1:Int))∧True)):=by kernel_rfl
theorem v27 (E:List Ev) (R:List Int) (M:List (List Int)) (h:SzG E M):q27D E R M:=by
 rw[d8m]
 cases hv:b8 E R M
 ·simp only[eq_self,true_and,and_true,z0o,imp_self,o6,o8,p7,i7,i9,PLoop.of,s8,AV.len,j4,z0u,l4,l5,l6,m8,m9,n5,n6,z0l,z2z]
  exact⟨⟨h.1,h.2⟩,by simp⟩
 ·obtain⟨hG,hN⟩:=a0g hv h
  obtain⟨hM,hR⟩:=a14 hv
  simp only[eq_self,true_and,and_true,z0o,imp_self,o6,o8,p7,i7,i9,PLoop.of,s8,AV.len,j4,z0u,l4,l5,l6,m8,m9,n5,n6,z0f,z3j]
  refine⟨⟨h.1,h.2⟩,by simp,?_⟩
  first | exact⟨by omega,hR⟩ | omega
theorem n27 (nm:List (Option AV)):CallOk Tryz.prog GL 27 (q6 EL gbT nm [PG] (a5k rfG)):=a5i Tryz.func27 fo27 fun av pre rv h=>by
 unfold a5k at h; split at h <;> cases h
 exact⟨⟨rfl,fun t a e=>by cases e <;> exact z0h _ _⟩,fun hp=>⟨_,v27 _ _ _ (hp _ (.head _)),rfl,(o5 (n33 _) (o5 (a1n (n61 _)) v4)),(a3y c2j (a3y ii76 v5))⟩⟩
theorem fo29:s5 Tryz.prog 29:=⟨Tryz.f29,Tryz.func29,by kernel_rfl,by kernel_rfl⟩
theorem fo77:s5 Tryz.prog 77:=⟨Tryz.f77,Tryz.func77,by kernel_rfl,by kernel_rfl⟩
theorem ii77 {l:List (Nat × PLoop)} {t:List (Nat × (List Slot→List MBlk→List Gh))} {s:List Nat}:a2x (77,⟨Tryz.f77,l,t,s⟩):=⟨Tryz.func77,fo77⟩
def q29D (E:List Ev) (R:List Int) (M:List (List Int)):Prop:=s4 (({ g:=true,calls:=[a5d (nmT E R M),kRl 62 (a7h pgM l8) (nmT E R M)],inl:=c2q 77 Tryz.f77 }:Kit)).tab Tryz.f29 [b2r E R M] (grT E R M) ((b5e (b8 E R M) E.length (b9 E.length (l8 E R M))).post EL)
theorem d8n (E:List Ev) (R:List Int) (M:List (List Int)):q29D E R M=(
 let a:=b9 (↑E.length:Int) (l8 E R M)
 let b:=AV.ps (n6 (b8 E R M) a)
 let c:=(0:Int)
 let d:=(1099511627776:Nat)
 let e:=(↑E.length:Int)
 ∀(us:List Value),some tbl=some tbl∧E.length=E.length∧R.length=R.length∧M.length=M.length∧nE E∧nI R∧nR M∧(E.length≤d∧(M.length≤(8:Nat)→∀(r:List Int),List.Mem r M→r.length≤d))∧((!b8 E R M)=true→us=us∧b.len=(0:Nat)∧((c=bif b8 E R M then e else c)∧b.len=(0:Nat)∧True)∧((1:Int)=bif b8 E R M then c else(1:Int))∧True)∧((!b8 E R M)=false→∀(us_1:List Value),E.length=E.length∧R.length=R.length∧M.length=M.length∧nE E∧nI R∧nR M∧(e≤(64:Int)∧(E.length≤d∧(M.length≤(8:Nat)→∀(r:List Int),List.Mem r M→r.length≤d))∧M.length≤(8:Nat))∧us_1=us_1∧us=us∧(AV.ps a).len=b.len∧((∀(j:Nat),j < b.len→(b7 (c,c) a j).fst=(b7 (c,c) (n6 (b8 E R M) a) j).fst)∧(∀(j:Nat),j < b.len→(b7 (c,c) a j).snd=(b7 (c,c) (n6 (b8 E R M) a) j).snd)∧True)∧((e=bif b8 E R M then e else c)∧(AV.ps a).len=b.len∧True)∧(c=bif b8 E R M then c else(1:Int))∧True)):=by kernel_rfl
theorem v29 (E:List Ev) (R:List Int) (M:List (List Int)) (h:SzG E M):q29D E R M:=by
 rw[d8n]
 cases hv:b8 E R M
 ·simp only[eq_self,true_and,and_true,z0o,imp_self,o6,o8,p7,i7,i9,PLoop.of,s8,AV.len,j4,z0u,l4,l5,l6,m8,m9,n5,n6,z0l,z2z]
  exact⟨⟨h.1,h.2⟩,by simp⟩
 ·obtain⟨hG,hN⟩:=a0g hv h
  obtain⟨hM,hR⟩:=a14 hv
  simp only[eq_self,true_and,and_true,z0o,imp_self,o6,o8,p7,i7,i9,PLoop.of,s8,AV.len,j4,z0u,l4,l5,l6,m8,m9,n5,n6,z0f,z3j]
  refine⟨⟨h.1,h.2⟩,by simp,?_⟩
  first | exact⟨by omega,⟨h.1,h.2⟩,by omega⟩ | omega
theorem n29 (nm:List (Option AV)):CallOk Tryz.prog GL 29 (q6 EL gbT nm [PG] (a5k l8)):=a5i Tryz.func29 fo29 fun av pre rv h=>by
 unfold a5k at h; split at h <;> cases h
 exact⟨⟨rfl,fun t a e=>by cases e <;> exact z0h _ _⟩,fun hp=>⟨_,v29 _ _ _ (hp _ (.head _)),rfl,(o5 (n33 _) (o5 (a1n (n62 _)) v4)),(a3y c2j (a3y ii77 v5))⟩⟩
theorem fo11:s5 Tryz.prog 11:=⟨Tryz.f11,Tryz.func11,by kernel_rfl,by kernel_rfl⟩
theorem fo48:s5 Tryz.prog 48:=⟨Tryz.f48,Tryz.func48,by kernel_rfl,by kernel_rfl⟩
theorem ii48 {l:List (Nat × PLoop)} {t:List (Nat × (List Slot→List MBlk→List Gh))} {s:List Nat}:a2x (48,⟨Tryz.f48,l,t,s⟩):=⟨Tryz.func48,fo48⟩
def q11D (E:List Ev) (R:List Int) (M:List (List Int)):Prop:=s4 (({ g:=true,calls:=[a5d (nmT E R M),kRl 49 (a7h pgF l7) (nmT E R M)],inl:=c2q 48 Tryz.f48 }:Kit)).tab Tryz.f11 [b2r E R M] (grT E R M) ((b5e (b8 E R M) E.length (b9 E.length (l7 E R M))).post EL)
theorem d8f (E:List Ev) (R:List Int) (M:List (List Int)):q11D E R M=(
 let a:=b9 (↑E.length:Int) (l7 E R M)
 let b:=AV.ps (n6 (b8 E R M) a)
 let c:=(0:Int)
 let d:=(1099511627776:Nat)
 let e:=(↑E.length:Int)
 ∀(us:List Value),some tbl=some tbl∧E.length=E.length∧R.length=R.length∧M.length=M.length∧nE E∧nI R∧nR M∧(E.length≤d∧(M.length≤(8:Nat)→∀(r:List Int),List.Mem r M→r.length≤d))∧((!b8 E R M)=true→us=us∧b.len=(0:Nat)∧((c=bif b8 E R M then e else c)∧b.len=(0:Nat)∧True)∧((1:Int)=bif b8 E R M then c else(1:Int))∧True)∧((!b8 E R M)=false→∀(us_1:List Value),E.length=E.length∧R.length=R.length∧M.length=M.length∧nE E∧nI R∧nR M∧(e≤(64:Int)∧R.length=E.length∧(E.length≤d∧(M.length≤(8:Nat)→∀(r:List Int),List.Mem r M→r.length≤d))∧M.length≤(8:Nat))∧us_1=us_1∧us=us∧(AV.ps a).len=b.len∧((∀(j:Nat),j < b.len→(b7 (c,c) a j).fst=(b7 (c,c) (n6 (b8 E R M) a) j).fst)∧(∀(j:Nat),j < b.len→(b7 (c,c) a j).snd=(b7 (c,c) (n6 (b8 E R M) a) j).snd)∧True)∧((e=bif b8 E R M then e else c)∧(AV.ps a).len=b.len∧True)∧(c=bif b8 E R M then c else(1:Int))∧True)):=by kernel_rfl
theorem v11 (E:List Ev) (R:List Int) (M:List (List Int)) (h:SzG E M):q11D E R M:=by
 rw[d8f]
 cases hv:b8 E R M
 ·simp only[eq_self,true_and,and_true,z0o,imp_self,o6,o8,p7,i7,i9,PLoop.of,s8,AV.len,j4,z0u,l4,l5,l6,m8,m9,n5,n6,z0l,z2z]
  exact⟨⟨h.1,h.2⟩,by simp⟩
 ·obtain⟨hG,hN⟩:=a0g hv h
  obtain⟨hM,hR⟩:=a14 hv
  simp only[eq_self,true_and,and_true,z0o,imp_self,o6,o8,p7,i7,i9,PLoop.of,s8,AV.len,j4,z0u,l4,l5,l6,m8,m9,n5,n6,z0f,z3j]
  refine⟨⟨h.1,h.2⟩,by simp,?_⟩
  first | exact⟨by omega,hR,⟨h.1,h.2⟩,by omega⟩ | omega
theorem n11 (nm:List (Option AV)):CallOk Tryz.prog GL 11 (q6 EL gbT nm [PG] (a5k l7)):=a5i Tryz.func11 fo11 fun av pre rv h=>by
 unfold a5k at h; split at h <;> cases h
 exact⟨⟨rfl,fun t a e=>by cases e <;> exact z0h _ _⟩,fun hp=>⟨_,v11 _ _ _ (hp _ (.head _)),rfl,(o5 (n33 _) (o5 (a1n (n49 _)) v4)),(a3y c2j (a3y ii48 v5))⟩⟩
theorem fo13:s5 Tryz.prog 13:=⟨Tryz.f13,Tryz.func13,by kernel_rfl,by kernel_rfl⟩
theorem fo51:s5 Tryz.prog 51:=⟨Tryz.f51,Tryz.func51,by kernel_rfl,by kernel_rfl⟩
theorem ii51 {l:List (Nat × PLoop)} {t:List (Nat × (List Slot→List MBlk→List Gh))} {s:List Nat}:a2x (51,⟨Tryz.f51,l,t,s⟩):=⟨Tryz.func51,fo51⟩
def q13D (E:List Ev) (R:List Int) (M:List (List Int)):Prop:=s4 (({ g:=true,calls:=[a5d (nmT E R M),kRl 52 (a7h pgS a03) (nmT E R M)],inl:=c2q 51 Tryz.f51 }:Kit)).tab Tryz.f13 [b2r E R M] (grT E R M) ((b5e (b8 E R M) E.length (b9 E.length (a03 E R M))).post EL)
theorem d8g (E:List Ev) (R:List Int) (M:List (List Int)):q13D E R M=(
 let a:=b9 (↑E.length:Int) (a03 E R M)
 let b:=AV.ps (n6 (b8 E R M) a)
 let c:=(↑E.length:Int)
 let d:=(0:Int)
 ∀(us:List Value),some tbl=some tbl∧E.length=E.length∧R.length=R.length∧M.length=M.length∧nE E∧nI R∧nR M∧(E.length≤(1099511627776:Nat)∧(M.length≤(8:Nat)→∀(r:List Int),List.Mem r M→r.length≤(1099511627776:Nat)))∧((!b8 E R M)=true→us=us∧b.len=(0:Nat)∧((d=bif b8 E R M then c else d)∧b.len=(0:Nat)∧True)∧((1:Int)=bif b8 E R M then d else(1:Int))∧True)∧((!b8 E R M)=false→∀(us_1:List Value),E.length=E.length∧R.length=R.length∧M.length=M.length∧nE E∧nI R∧nR M∧(c≤(64:Int)∧R.length=E.length∧∀(j:Int),d≤j→j < c→inA R j < c)∧us_1=us_1∧us=us∧(AV.ps a).len=b.len∧((∀(j:Nat),j < b.len→(b7 (d,d) a j).fst=(b7 (d,d) (n6 (b8 E R M) a) j).fst)∧(∀(j:Nat),j < b.len→(b7 (d,d) a j).snd=(b7 (d,d) (n6 (b8 E R M) a) j).snd)∧True)∧((c=bif b8 E R M then c else d)∧(AV.ps a).len=b.len∧True)∧(d=bif b8 E R M then d else(1:Int))∧True)):=by kernel_rfl
theorem v13 (E:List Ev) (R:List Int) (M:List (List Int)) (h:SzG E M):q13D E R M:=by
 rw[d8g]
 cases hv:b8 E R M
 ·simp only[eq_self,true_and,and_true,z0o,imp_self,o6,o8,p7,i7,i9,PLoop.of,s8,AV.len,j4,z0u,l4,l5,l6,m8,m9,n5,n6,z0l,z2z]
  exact⟨⟨h.1,h.2⟩,by simp⟩
 ·obtain⟨hG,hN⟩:=a0g hv h
  obtain⟨hM,hR⟩:=a14 hv
  simp only[eq_self,true_and,and_true,z0o,imp_self,o6,o8,p7,i7,i9,PLoop.of,s8,AV.len,j4,z0u,l4,l5,l6,m8,m9,n5,n6,z0f,z3j]
  refine⟨⟨h.1,h.2⟩,by simp,?_⟩
  first | exact⟨by omega,⟨hG.2.1.1,hG.2.1.2⟩⟩ | omega
theorem n13 (nm:List (Option AV)):CallOk Tryz.prog GL 13 (q6 EL gbT nm [PG] (a5k a03)):=a5i Tryz.func13 fo13 fun av pre rv h=>by
 unfold a5k at h; split at h <;> cases h
 exact⟨⟨rfl,fun t a e=>by cases e <;> exact z0h _ _⟩,fun hp=>⟨_,v13 _ _ _ (hp _ (.head _)),rfl,(o5 (n33 _) (o5 (a1n (n52 _)) v4)),(a3y c2j (a3y ii51 v5))⟩⟩
def a42 (n:Nat) (a b c:Pf):List Pq:=b9 n (wF (f7 (b9 n a ++ b9 n b ++ b9 n c)) n)
def b1y (a b c:GF):SpG:=fun
 | [.ag [.es E,.is R,.rs M]]=>some ([SzG E M],b5e (b8 E R M) E.length (a42 E.length (a E R M) (b E R M) (c E R M)))
 | _=>none
def a17 (n:Nat) (a b c:Pf):List (Int × List Pq):=[((n:Int),b9 n a),((n:Int),b9 n b),((n:Int),b9 n c)]
theorem a8j (f:Pf) {n:Nat} (hN:n≤64):g7 (n:Int) (b9 n f)=true:=by rw[a6m]; exact(a8i f hN).1
theorem b8x (f:Pf) {n:Nat} (hN:n≤64):(b9 n f).length≤4096:=by
 rw[a6m]
 have h1:=a32 f n n
 have h3:n * n≤64 * 64:=z3f (by omega) (by omega)
 omega
theorem b7p {N:Int} {a b:List Pq} (ha:g7 N a=true) (hb:g7 N b=true):g7 N (a ++ b)=true:=by
 obtain⟨h1,h2,h3⟩:=a0f.1 ha
 obtain⟨_,_,h4⟩:=a0f.1 hb
 refine a0f.2 ⟨h1,h2,fun p hp=>?_⟩
 rcases z0n.1 hp with hp | hp
 ·exact h3 p hp
 ·exact h4 p hp
theorem a6j (n:Nat) (a b c:Pf):s7 (a17 n a b c) (a17 n a b c).length=b9 n a ++ b9 n b ++ b9 n c:=by
 show [] ++ b9 n a ++ b9 n b ++ b9 n c=_
 rw[List.nil_append]
theorem b34 (a b c:Pf) {n:Nat} (hN:n≤64):((a17 n a b c).length≤64∧g7 (n:Int) (s7 (a17 n a b c) (a17 n a b c).length)=true)∧∀ j,j≤(a17 n a b c).length→(s7 (a17 n a b c) j).length≤1000000:=by
 have h1:=b8x a hN
 have h2:=b8x b hN
 have h3:=b8x c hN
 refine⟨⟨by simp[a17],?_⟩,fun j hj=>?_⟩
 ·rw[a6j]; exact b7p (b7p (a8j a hN) (a8j b hN)) (a8j c hN)
 ·have hj:j≤3:=hj
  match j,hj with
  | 0,_=>simp[s7]
  | 1,_=>show([] ++ b9 n a).length≤_; rw[List.nil_append]; omega
  | 2,_=>show([] ++ b9 n a ++ b9 n b).length≤_; rw[List.nil_append,z1d]; omega
  | 3,_=>show([] ++ b9 n a ++ b9 n b ++ b9 n c).length≤_; rw[List.nil_append,z1d,z1d]; omega
theorem b8o (n:Nat) (a b c:Pf):mkN (fun j=>(u4 (n:Int) (n:Int) (n:Int) j,mkN (fun i=>(u4 (fun j=>(b7 (0,0) (b9 n a) j).1) (fun j=>(b7 (0,0) (b9 n b) j).1) (fun j=>(b7 (0,0) (b9 n c) j).1) j i,u4 (fun j=>(b7 (0,0) (b9 n a) j).2) (fun j=>(b7 (0,0) (b9 n b) j).2) (fun j=>(b7 (0,0) (b9 n c) j).2) j i)) (u4 (b9 n a).length (b9 n b).length (b9 n c).length j))) 3=a17 n a b c:=by
 have e:∀ l:List Pq,mkN (fun i=>((b7 (0,0) l i).1,(b7 (0,0) l i).2)) l.length=l:=fun l=>o6 l
 show [_,_,_]=[_,_,_]
 simp only[u4,e]
theorem fo15:s5 Tryz.prog 15:=⟨Tryz.f15,Tryz.func15,by kernel_rfl,by kernel_rfl⟩
theorem fo53:s5 Tryz.prog 53:=⟨Tryz.f53,Tryz.func53,by kernel_rfl,by kernel_rfl⟩
theorem ii53 {l:List (Nat × PLoop)} {t:List (Nat × (List Slot→List MBlk→List Gh))} {s:List Nat}:a2x (53,⟨Tryz.f53,l,t,s⟩):=⟨Tryz.func53,fo53⟩
def q15D (E:List Ev) (R:List Int) (M:List (List Int)):Prop:=s4 (({ g:=true,calls:=[a5d (nmT E R M),kRl 55 (b6h pgE poG) (nmT E R M),d6r,kCol (nmT E R M),kRl 52 (a7h pgS a03) (nmT E R M),kClz (no 16 ++ [some (.rl (a17 E.length (poG E R M) (j7 E R M) (a03 E R M)))])],inl:=c2q 53 Tryz.f53 }:Kit)).tab Tryz.f15 [b2r E R M] (grT E R M) ((b5e (b8 E R M) E.length (a42 E.length (poG E R M) (j7 E R M) (a03 E R M))).post EL)
theorem d8h (E:List Ev) (R:List Int) (M:List (List Int)):q15D E R M=(
 let a:=a17 E.length (poG E R M) (j7 E R M) (a03 E R M)
 let b:=(↑E.length:Int)
 let c:=n6 (b8 E R M) (a42 E.length (poG E R M) (j7 E R M) (a03 E R M))
 let d:=((0:Int),(0:Int))
 let e:=b9 b (wF (f7 (s7 a a.length)) E.length)
 let f:=b9 b (poG E R M)
 let g:=b9 b (a03 E R M)
 let h:=b9 b (j7 E R M)
 let k:=AV.ps c
 let l:=(0:Int)
 ∀(us:List Value),some tbl=some tbl∧E.length=E.length∧R.length=R.length∧M.length=M.length∧nE E∧nI R∧nR M∧(E.length≤(1099511627776:Nat)∧(M.length≤(8:Nat)→∀(r:List Int),List.Mem r M→r.length≤(1099511627776:Nat)))∧((!b8 E R M)=true→us=us∧k.len=(0:Nat)∧((l=bif b8 E R M then b else l)∧k.len=(0:Nat)∧True)∧((1:Int)=bif b8 E R M then l else(1:Int))∧True)∧((!b8 E R M)=false→∀(us_1:List Value),E.length=E.length∧R.length=R.length∧M.length=M.length∧nE E∧nI R∧nR M∧b≤(64:Int)∧E.length=E.length∧R.length=R.length∧M.length=M.length∧nE E∧nI R∧nR M∧(b=b∧b≤(64:Int))∧E.length=E.length∧R.length=R.length∧M.length=M.length∧nE E∧nI R∧nR M∧(b≤(64:Int)∧R.length=E.length∧∀(j:Int),l≤j→j < b→inA R j < b)∧(AV.ps f).len=(AV.ps f).len∧(AV.ps h).len=(AV.ps h).len∧(AV.ps g).len=(AV.ps g).len∧(3:Nat)=(3:Nat)∧mkN (fun(j:Nat)=>(u4 b b b j,mkN (fun(i:Nat)=>(u4 (fun(j:Nat)=>(b7 d f j).fst) (fun(j:Nat)=>(b7 d h j).fst) (fun(j:Nat)=>(b7 d g j).fst) j i,u4 (fun(j:Nat)=>(b7 d f j).snd) (fun(j:Nat)=>(b7 d h j).snd) (fun(j:Nat)=>(b7 d g j).snd) j i)) (u4 (AV.ps f).len (AV.ps h).len (AV.ps g).len j))) (3:Nat)=a17 E.length (poG E R M) (j7 E R M) (a03 E R M)∧((a.length≤(64:Nat)∧g7 b (s7 a a.length)=true)∧∀(j:Nat),j≤a.length→(s7 a j).length≤(1000000:Nat))∧us_1=us_1∧us=us∧(AV.ps e).len=k.len∧((∀(j:Nat),j < k.len→(b7 d e j).fst=(b7 d c j).fst)∧(∀(j:Nat),j < k.len→(b7 d e j).snd=(b7 d c j).snd)∧True)∧((b=bif b8 E R M then b else l)∧(AV.ps e).len=k.len∧True)∧(l=bif b8 E R M then l else(1:Int))∧True)):=by kernel_rfl
theorem v15 (E:List Ev) (R:List Int) (M:List (List Int)) (h:SzG E M):q15D E R M:=by
 rw[d8h]
 cases hv:b8 E R M
 ·simp only[eq_self,true_and,and_true,z0o,imp_self,o6,o8,p7,i7,i9,PLoop.of,s8,AV.len,j4,z0u,l4,l5,l6,m8,m9,n5,n6,z0l,z2z]
  exact⟨⟨h.1,h.2⟩,by simp⟩
 ·obtain⟨hG,hN⟩:=a0g hv h
  obtain⟨hM,hR⟩:=a14 hv
  simp only[eq_self,true_and,and_true,z0o,imp_self,o6,o8,p7,i7,i9,PLoop.of,s8,AV.len,j4,z0u,l4,l5,l6,m8,m9,n5,n6,z0f,z3j,b8o,a42,a6j]
  refine⟨⟨h.1,h.2⟩,by simp,(by omega),(by omega),⟨by omega,⟨hG.2.1.1,hG.2.1.2⟩⟩,?_⟩
  have h5:=b34 (poG E R M) (j7 E R M) (a03 E R M) hN
  rw[a6j] at h5
  exact h5
theorem n15 (nm:List (Option AV)):CallOk Tryz.prog GL 15 (q6 EL gbT nm [PG] (b1y poG j7 a03)):=a5i Tryz.func15 fo15 fun av pre rv h=>by
 unfold b1y at h; split at h <;> cases h
 exact⟨⟨rfl,fun t a e=>by cases e <;> exact z0h _ _⟩,fun hp=>⟨_,v15 _ _ _ (hp _ (.head _)),rfl,(o5 (n33 _) (o5 (a1n (n55 _)) (o5 (a1n n57) (o5 (a1n (n56 _)) (o5 (a1n (n52 _)) (o5 (a1n (n54 _)) v4)))))),(a3y c2j (a3y ii53 v5))⟩⟩
theorem fo17:s5 Tryz.prog 17:=⟨Tryz.f17,Tryz.func17,by kernel_rfl,by kernel_rfl⟩
theorem fo60:s5 Tryz.prog 60:=⟨Tryz.f60,Tryz.func60,by kernel_rfl,by kernel_rfl⟩
theorem ii60 {l:List (Nat × PLoop)} {t:List (Nat × (List Slot→List MBlk→List Gh))} {s:List Nat}:a2x (60,⟨Tryz.f60,l,t,s⟩):=⟨Tryz.func60,fo60⟩
def q17D (E:List Ev) (R:List Int) (M:List (List Int)):Prop:=s4 (({ g:=true,calls:=[a5d (nmT E R M),kRl 61 (b6h pgR rfG) (nmT E R M),kRl 62 (a7h pgM l8) (nmT E R M),kRl 49 (a7h pgF l7) (nmT E R M),kClz (no 14 ++ [some (.rl (a17 E.length (rfG E R M) (l8 E R M) (l7 E R M)))])],inl:=c2q 60 Tryz.f60 }:Kit)).tab Tryz.f17 [b2r E R M] (grT E R M) ((b5e (b8 E R M) E.length (a42 E.length (rfG E R M) (l8 E R M) (l7 E R M))).post EL)
theorem d8i (E:List Ev) (R:List Int) (M:List (List Int)):q17D E R M=(
 let a:=a17 E.length (rfG E R M) (l8 E R M) (l7 E R M)
 let b:=n6 (b8 E R M) (a42 E.length (rfG E R M) (l8 E R M) (l7 E R M))
 let c:=(↑E.length:Int)
 let d:=((0:Int),(0:Int))
 let e:=b9 c (wF (f7 (s7 a a.length)) E.length)
 let f:=(1099511627776:Nat)
 let g:=b9 c (rfG E R M)
 let h:=b9 c (l8 E R M)
 let k:=b9 c (l7 E R M)
 let l:=AV.ps b
 let m:=(0:Int)
 ∀(us:List Value),some tbl=some tbl∧E.length=E.length∧R.length=R.length∧M.length=M.length∧nE E∧nI R∧nR M∧(E.length≤f∧(M.length≤(8:Nat)→∀(r:List Int),List.Mem r M→r.length≤f))∧((!b8 E R M)=true→us=us∧l.len=(0:Nat)∧((m=bif b8 E R M then c else m)∧l.len=(0:Nat)∧True)∧((1:Int)=bif b8 E R M then m else(1:Int))∧True)∧((!b8 E R M)=false→∀(us_1:List Value),E.length=E.length∧R.length=R.length∧M.length=M.length∧nE E∧nI R∧nR M∧(c≤(64:Int)∧R.length=E.length)∧E.length=E.length∧R.length=R.length∧M.length=M.length∧nE E∧nI R∧nR M∧(c≤(64:Int)∧(E.length≤f∧(M.length≤(8:Nat)→∀(r:List Int),List.Mem r M→r.length≤f))∧M.length≤(8:Nat))∧E.length=E.length∧R.length=R.length∧M.length=M.length∧nE E∧nI R∧nR M∧(c≤(64:Int)∧R.length=E.length∧(E.length≤f∧(M.length≤(8:Nat)→∀(r:List Int),List.Mem r M→r.length≤f))∧M.length≤(8:Nat))∧(AV.ps g).len=(AV.ps g).len∧(AV.ps h).len=(AV.ps h).len∧(AV.ps k).len=(AV.ps k).len∧(3:Nat)=(3:Nat)∧mkN (fun(j:Nat)=>(u4 c c c j,mkN (fun(i:Nat)=>(u4 (fun(j:Nat)=>(b7 d g j).fst) (fun(j:Nat)=>(b7 d h j).fst) (fun(j:Nat)=>(b7 d k j).fst) j i,u4 (fun(j:Nat)=>(b7 d g j).snd) (fun(j:Nat)=>(b7 d h j).snd) (fun(j:Nat)=>(b7 d k j).snd) j i)) (u4 (AV.ps g).len (AV.ps h).len (AV.ps k).len j))) (3:Nat)=a17 E.length (rfG E R M) (l8 E R M) (l7 E R M)∧((a.length≤(64:Nat)∧g7 c (s7 a a.length)=true)∧∀(j:Nat),j≤a.length→(s7 a j).length≤(1000000:Nat))∧us_1=us_1∧us=us∧(AV.ps e).len=l.len∧((∀(j:Nat),j < l.len→(b7 d e j).fst=(b7 d b j).fst)∧(∀(j:Nat),j < l.len→(b7 d e j).snd=(b7 d b j).snd)∧True)∧((c=bif
 b8 E R M then c else m)∧(AV.ps e).len=l.len∧True)∧(m=bif b8 E R M then m else(1:Int))∧True)):=by kernel_rfl
theorem v17 (E:List Ev) (R:List Int) (M:List (List Int)) (h:SzG E M):q17D E R M:=by
 rw[d8i]
 cases hv:b8 E R M
 ·simp only[eq_self,true_and,and_true,z0o,imp_self,o6,o8,p7,i7,i9,PLoop.of,s8,AV.len,j4,z0u,l4,l5,l6,m8,m9,n5,n6,z0l,z2z]
  exact⟨⟨h.1,h.2⟩,by simp⟩
 ·obtain⟨hG,hN⟩:=a0g hv h
  obtain⟨hM,hR⟩:=a14 hv
  simp only[eq_self,true_and,and_true,z0o,imp_self,o6,o8,p7,i7,i9,PLoop.of,s8,AV.len,j4,z0u,l4,l5,l6,m8,m9,n5,n6,z0f,z3j,b8o,a42,a6j]
  refine⟨⟨h.1,h.2⟩,by simp,⟨by omega,hR⟩,⟨by omega,⟨h.1,h.2⟩,by omega⟩,⟨by omega,hR,⟨h.1,h.2⟩,by omega⟩,?_⟩
  have h5:=b34 (rfG E R M) (l8 E R M) (l7 E R M) hN
  rw[a6j] at h5
  exact h5
theorem n17 (nm:List (Option AV)):CallOk Tryz.prog GL 17 (q6 EL gbT nm [PG] (b1y rfG l8 l7)):=a5i Tryz.func17 fo17 fun av pre rv h=>by
 unfold b1y at h; split at h <;> cases h
 exact⟨⟨rfl,fun t a e=>by cases e <;> exact z0h _ _⟩,fun hp=>⟨_,v17 _ _ _ (hp _ (.head _)),rfl,(o5 (n33 _) (o5 (a1n (n61 _)) (o5 (a1n (n62 _)) (o5 (a1n (n49 _)) (o5 (a1n (n54 _)) v4))))),(a3y c2j (a3y ii60 v5))⟩⟩
def j5 (a b:Int):Int:=bif decide (a < b) then -1 else bif decide (a > b) then 1 else 0
def orF:List Int→Int
 | []=>0
 | x :: r=>bif x != 0 then x else orF r
def a51 (a b:Ev):Int:=orF [j5 a.ag b.ag,j5 a.ix b.ix,j5 a.k b.k,j5 a.ob b.ob,j5 a.mu b.mu,j5 a.en b.en,j5 a.od b.od,j5 a.rd b.rd,j5 a.wr b.wr]
def o9 {α:Type} (f:α→α→Int):List α→List α→Int
 | [],[]=>0
 | [],_ :: _=>-1
 | _ :: _,[]=>1
 | x :: r,y :: s=>bif f x y != 0 then f x y else o9 f r s
def t8 (a:List (List Int)) (x:Nat):List Int:=b7 [] a x
def x5 (f:Nat→Int):Nat→Int
 | 0=>0
 | n + 1=>bif x5 f n != 0 then x5 f n else f n
def a7j (a b:List (List Int)):Int:=x5 (fun x=>o9 j5 (t8 a x) (t8 b x)) (if b.length > a.length then b.length else a.length)
theorem b9w {f:Nat→Int} {n j:Nat} (h0:x5 f j=0) (hf:f j≠0) (hj:j < n):x5 f n=f j:=by
 have h1:x5 f (j + 1)=f j:=by
  have:(x5 f j != 0)=false:=by simp[h0]
  rw[x5,this]; rfl
 have key:∀ d,x5 f (j + 1 + d)=f j:=by
  intro d
  induction d with
  | zero=>exact h1
  | succ d ih =>
   rw[← z2v,x5,ih]
   have:(f j != 0)=true:=by simpa using hf
   rw[this]; rfl
 have:=key (n - (j + 1))
 rwa [show j + 1 + (n - (j + 1))=n by omega] at this
theorem b4c {f:Nat→Int} {j:Nat} (h0:x5 f j=0) (hf:f j=0):x5 f (j + 1)=0:=by
 have:(x5 f j != 0)=false:=by simp[h0]
 rw[x5,this]; exact hf
theorem d2h {l:List Int}:∀ {j:Nat},(∀ q,q < j→b7 0 l q=0)→j < l.length→b7 0 l j≠0→orF l=b7 0 l j:=by
 induction l with
 | nil=>intro j _ h; simp at h
 | cons x r ih =>
  intro j h1 h2 h3
  cases j with
  | zero =>
   have:(x != 0)=true:=by simpa [b7] using h3
   rw[orF,this]; rfl
  | succ j =>
   have hx:x=0:=h1 0 (by omega)
   subst hx
   have:=ih (j:=j) (fun q hq=>h1 (q + 1) (by omega)) (by simpa using h2) h3
   simpa [orF,b7] using this
theorem c95 {l:List Int}:(∀ q,q < l.length→b7 0 l q=0)→orF l=0:=by
 induction l with
 | nil=>intro _; rfl
 | cons x r ih =>
  intro h
  have hx:x=0:=h 0 (by simp)
  subst hx
  simpa [orF] using ih fun q hq=>h (q + 1) (by simpa using hq)
section
variable {α:Type} {f:α→α→Int} {d:α}
theorem b01:∀ {l m:List α} {j:Nat},(∀ q,q < j→f (b7 d l q) (b7 d m q)=0)→j < l.length→j < m.length→f (b7 d l j) (b7 d m j)≠0→o9 f l m=f (b7 d l j) (b7 d m j):=by
 intro l
 induction l with
 | nil=>intro m j _ h; simp at h
 | cons x r ih =>
  intro m j h1 h2 h3 h4
  cases m with
  | nil=>simp at h3
  | cons y s =>
   cases j with
   | zero =>
    have:(f x y != 0)=true:=by simpa [b7] using h4
    rw[o9,this]; rfl
   | succ j =>
    have hx:f x y=0:=h1 0 (by omega)
    have:=ih (m:=s) (j:=j) (fun q hq=>h1 (q + 1) (by omega)) (by simpa using h2) (by simpa using h3) h4
    rw[o9,hx]
    simpa [b7] using this
theorem a7s:∀ {l m:List α},(∀ q,q < l.length→q < m.length→f (b7 d l q) (b7 d m q)=0)→o9 f l m=bif decide (m.length < l.length) then 1 else bif decide (l.length < m.length) then -1 else 0:=by
 intro l
 induction l with
 | nil =>
  intro m _
  cases m <;> simp[o9]
 | cons x r ih =>
  intro m h
  cases m with
  | nil=>simp[o9]
  | cons y s =>
   have hx:f x y=0:=h 0 (by simp) (by simp)
   have:=ih (m:=s) fun q h1 h2=>h (q + 1) (by simpa using h1) (by simpa using h2)
   rw[o9,hx]
   simpa using this
end
def c3i:SpP:=fun | [.lf (.i a),.lf (.i b)]=>some ([],plI (j5 a b)) | _=>none
def d21 (n:Nat):Nat × (List MBlk→List SV→Option AR):=(n,q6 EL none [] [.lf .i,.lf .i] c3i)
def sOr:SpP:=fun | [.lf (.is l)]=>some ([L40 l.length],plI (orF l)) | _=>none
def kOr (nm:List (Option AV)):Nat × (List MBlk→List SV→Option AR):=(96,q6 EL none nm [.lf .is] sOr)
def d7d:SpP:=fun | [.lf (.ev a),.lf (.ev b)]=>some ([],plI (a51 a b)) | _=>none
def kCmE:Nat × (List MBlk→List SV→Option AR):=(98,q6 EL none [] [.lf .ev,.lf .ev] d7d)
def c76:SpP:=fun | [.lf (.is l),.lf (.is m)]=>some ([L40 l.length],plI (o9 j5 l m)) | _=>none
def kCmL (nm:List (Option AV)):Nat × (List MBlk→List SV→Option AR):=(99,q6 EL none nm [.lf .is,.lf .is] c76)
def d7e:SpP:=fun | [.lf (.es l),.lf (.es m),.fc 98]=>some ([L40 l.length],plI (o9 a51 l m)) | _=>none
def kCmF (nm:List (Option AV)):Nat × (List MBlk→List SV→Option AR):=(97,q6 EL none nm [.lf .es,.lf .es,.fc 98] d7e)
def SzR (M:List (List Int)):Prop:=∀ r∈M,L40 r.length
def d7f:SpP:=fun | [.lf (.rs a),.lf (.rs b)]=>some ([(L40 a.length∧L40 b.length)∧SzR a],plI (a7j a b)) | _=>none
def kCmM (nm:List (Option AV)):Nat × (List MBlk→List SV→Option AR):=(92,q6 EL none nm [.lf .rs,.lf .rs] d7f)
def a25 (_:Int):Bool:=false
def lOr (l:List Int) (t:Nat):LAnn:=s8 l.length t (fun j=>∀ q,q < j→b7 0 l q=0) (fun _=>[]) []
def b2s {α:Type} (f:α→α→Int) (d:α) (l m:List α) (t:Nat):LAnn:=s8 l.length t (fun j=>j≤m.length∧∀ q,q < j→f (b7 d l q) (b7 d m q)=0) (fun _=>[]) []
def b6c (a b:List (List Int)) (t:Nat):LAnn:=s8 (if b.length > a.length then b.length else a.length) t (fun j=>x5 (fun x=>o9 j5 (t8 a x) (t8 b x)) j=0) (fun _=>[]) []
end Go.Proofs.YtaeeaniofljmnaaGreatDoor

/-
  A part of the proof (N40a).
-/
import Derived.Test.YtaeeaniofljmnaaGreatDoorN35a
namespace Go.Proofs.YtaeeaniofljmnaaGreatDoor
set_option linter.unusedSimpArgs false
set_option linter.unusedVariables false
open Go Go.Proofs.YtaeeaniofljmnaaGreatDoor.Sx
set_option maxRecDepth 100000
theorem a2a {E:List Ev} {R:List Int} {M:List (List Int)} (hv:d6 E R M=true):M.length≤8∧R.length=E.length:=by
 simp only[d6,z0d,z1p] at hv
 exact⟨hv.1.1.1.2,hv.1.1.1.1.2⟩
theorem fo47:o8 Tryz.prog 47:=⟨Tryz.f47,Tryz.func47,by kernel_rfl,by kernel_rfl⟩
theorem c0l {l:List (Nat × PLoop)} {t:List (Nat × (List Slot→List MBlk→List Gh))} {s:List Nat}:a1q (47,⟨Tryz.f47,l,t,s⟩):=⟨Tryz.func47,fo47⟩
theorem fo25:o8 Tryz.prog 25:=⟨Tryz.f25,Tryz.func25,by kernel_rfl,by kernel_rfl⟩
theorem fo75:o8 Tryz.prog 75:=⟨Tryz.f75,Tryz.func75,by kernel_rfl,by kernel_rfl⟩
theorem ii75 {l:List (Nat × PLoop)} {t:List (Nat × (List Slot→List MBlk→List Gh))} {s:List Nat}:a1q (75,⟨Tryz.f75,l,t,s⟩):=⟨Tryz.func75,fo75⟩
def q25D (E:List Ev) (R:List Int) (M:List (List Int)):Prop:=n9 (({ g:=true,calls:=[a49 (nmT E R M),kRl 55 (b4t pgE poG) (nmT E R M)],inl:=c0r 75 Tryz.f75 }:Kit)).tab Tryz.f25 [b4k E R M] (grT E R M) ((b7b (d6 E R M) E.length (b9 E.length (poG E R M))).post EL)
theorem d55 (E:List Ev) (R:List Int) (M:List (List Int)):q25D E R M=(
 let a:=b9 (↑E.length:Int) (poG E R M)
 let b:=AV.ps (o9 (d6 E R M) a)
 let c:=(0:Int)
 let d:=(↑E.length:Int)
 ∀(us:List Value),some tbl=some tbl∧E.length=E.length∧R.length=R.length∧M.length=M.length∧nE E∧nI R∧nR M∧(E.length≤(1099511627776:Nat)∧(M.length≤(8:Nat)→∀(r:List Int),List.Mem r M→r.length≤(1099511627776:Nat)))∧((!d6 E R M)=true→us=us∧b.len=(0:Nat)∧((c=bif d6 E R M then d else c)∧b.len=(0:Nat)∧True)∧((1:Int)=bif d6 E R M then c else(1:Int))∧True)∧((!d6 E R M)=false→∀(us_1:List Value),E.length=E.length∧R.length=R.length∧M.length=M.length∧nE E∧nI R∧nR M∧d≤(64:Int)∧us_1=us_1∧us=us∧(AV.ps a).len=b.len∧((∀(j:Nat),j < b.len→(b8 (c,c) a j).fst=(b8 (c,c) (o9 (d6 E R M) a) j).fst)∧(∀(j:Nat),j < b.len→(b8 (c,c) a j).snd=(b8 (c,c) (o9 (d6 E R M) a) j).snd)∧True)∧((d=bif d6 E R M then d else c)∧(AV.ps a).len=b.len∧True)∧(c=bif d6 E R M then c else(1:Int))∧True)):=by kernel_rfl
theorem v25 (E:List Ev) (R:List Int) (M:List (List Int)) (h:SzG E M):q25D E R M:=by
 rw[d55]
 cases hv:d6 E R M
 ·simp only[eq_self,true_and,and_true,z0p,imp_self,m5,n5,o0,g8,i9,PLoop.of,s5,AV.len,j5,z0v,j8,l5,l6,m6,m7,m8,o9,z0m,z2y]
  exact⟨⟨h.1,h.2⟩,by simp⟩
 ·obtain⟨hG,hN⟩:=a25 hv h
  obtain⟨hM,hR⟩:=a2a hv
  simp only[eq_self,true_and,and_true,z0p,imp_self,m5,n5,o0,g8,i9,PLoop.of,s5,AV.len,j5,z0v,j8,l5,l6,m6,m7,m8,o9,z0f,Bool.not_true]
  refine⟨⟨h.1,h.2⟩,by simp,?_⟩
  first | exact(by omega) | omega
theorem n25 (nm:List (Option AV)):CallOk Tryz.prog GL 25 (n8 EL gbT nm [PG] (a4h poG)):=a4r Tryz.func25 fo25 fun av pre rv h=>by
 unfold a4h at h; split at h <;> cases h
 exact⟨⟨rfl,fun t a e=>by cases e <;> exact z0k _ _⟩,fun hp=>⟨_,v25 _ _ _ (hp _ (.head _)),rfl,(m9 (n33 _) (m9 (a0y (n55 _)) v4)),(a3q c0l (a3q ii75 v5))⟩⟩
theorem fo27:o8 Tryz.prog 27:=⟨Tryz.f27,Tryz.func27,by kernel_rfl,by kernel_rfl⟩
theorem fo76:o8 Tryz.prog 76:=⟨Tryz.f76,Tryz.func76,by kernel_rfl,by kernel_rfl⟩
theorem ii76 {l:List (Nat × PLoop)} {t:List (Nat × (List Slot→List MBlk→List Gh))} {s:List Nat}:a1q (76,⟨Tryz.f76,l,t,s⟩):=⟨Tryz.func76,fo76⟩
def q27D (E:List Ev) (R:List Int) (M:List (List Int)):Prop:=n9 (({ g:=true,calls:=[a49 (nmT E R M),kRl 61 (b4t pgR rfG) (nmT E R M)],inl:=c0r 76 Tryz.f76 }:Kit)).tab Tryz.f27 [b4k E R M] (grT E R M) ((b7b (d6 E R M) E.length (b9 E.length (rfG E R M))).post EL)
theorem d56 (E:List Ev) (R:List Int) (M:List (List Int)):q27D E R M=(
 let a:=b9 (↑E.length:Int) (rfG E R M)
 let b:=AV.ps (o9 (d6 E R M) a)
 let c:=(0:Int)
 let d:=(↑E.length:Int)
 ∀(us:List Value),some tbl=some tbl∧E.length=E.length∧R.length=R.length∧M.length=M.length∧nE E∧nI R∧nR M∧(E.length≤(1099511627776:Nat)∧(M.length≤(8:Nat)→∀(r:List Int),List.Mem r M→r.length≤(1099511627776:Nat)))∧((!d6 E R M)=true→us=us∧b.len=(0:Nat)∧((c=bif d6 E R M then d else c)∧b.len=(0:Nat)∧True)∧((1:Int)=bif d6 E R M then c else(1:Int))∧True)∧((!d6 E R M)=false→∀(us_1:List Value),E.length=E.length∧R.length=R.length∧M.length=M.length∧nE E∧nI R∧nR M∧(d≤(64:Int)∧R.length=E.length)∧us_1=us_1∧us=us∧(AV.ps a).len=b.len∧((∀(j:Nat),j < b.len→(b8 (c,c) a j).fst=(b8 (c,c) (o9 (d6 E R M) a) j).fst)∧(∀(j:Nat),j < b.len→(b8 (c,c) a j).snd=(b8 (c,c) (o9 (d6 E R M) a) j).snd)∧True)∧((d=bif d6 E R M then d else c)∧(AV.ps a).len=b.len∧True)∧(c=bif d6 E R M then c else(1:Int))∧True)):=by kernel_rfl
theorem v27 (E:List Ev) (R:List Int) (M:List (List Int)) (h:SzG E M):q27D E R M:=by
 rw[d56]
 cases hv:d6 E R M
 ·simp only[eq_self,true_and,and_true,z0p,imp_self,m5,n5,o0,g8,i9,PLoop.of,s5,AV.len,j5,z0v,j8,l5,l6,m6,m7,m8,o9,z0m,z2y]
  exact⟨⟨h.1,h.2⟩,by simp⟩
 ·obtain⟨hG,hN⟩:=a25 hv h
  obtain⟨hM,hR⟩:=a2a hv
  simp only[eq_self,true_and,and_true,z0p,imp_self,m5,n5,o0,g8,i9,PLoop.of,s5,AV.len,j5,z0v,j8,l5,l6,m6,m7,m8,o9,z0f,Bool.not_true]
  refine⟨⟨h.1,h.2⟩,by simp,?_⟩
  first | exact⟨by omega,hR⟩ | omega
theorem n27 (nm:List (Option AV)):CallOk Tryz.prog GL 27 (n8 EL gbT nm [PG] (a4h rfG)):=a4r Tryz.func27 fo27 fun av pre rv h=>by
 unfold a4h at h; split at h <;> cases h
 exact⟨⟨rfl,fun t a e=>by cases e <;> exact z0k _ _⟩,fun hp=>⟨_,v27 _ _ _ (hp _ (.head _)),rfl,(m9 (n33 _) (m9 (a0y (n61 _)) v4)),(a3q c0l (a3q ii76 v5))⟩⟩
theorem fo29:o8 Tryz.prog 29:=⟨Tryz.f29,Tryz.func29,by kernel_rfl,by kernel_rfl⟩
theorem fo77:o8 Tryz.prog 77:=⟨Tryz.f77,Tryz.func77,by kernel_rfl,by kernel_rfl⟩
theorem ii77 {l:List (Nat × PLoop)} {t:List (Nat × (List Slot→List MBlk→List Gh))} {s:List Nat}:a1q (77,⟨Tryz.f77,l,t,s⟩):=⟨Tryz.func77,fo77⟩
def q29D (E:List Ev) (R:List Int) (M:List (List Int)):Prop:=n9 (({ g:=true,calls:=[a49 (nmT E R M),kRl 62 (a6g pgM i7) (nmT E R M)],inl:=c0r 77 Tryz.f77 }:Kit)).tab Tryz.f29 [b4k E R M] (grT E R M) ((b7b (d6 E R M) E.length (b9 E.length (i7 E R M))).post EL)
theorem d57 (E:List Ev) (R:List Int) (M:List (List Int)):q29D E R M=(
 let a:=b9 (↑E.length:Int) (i7 E R M)
 let b:=AV.ps (o9 (d6 E R M) a)
 let c:=(0:Int)
 let d:=(1099511627776:Nat)
 let e:=(↑E.length:Int)
 ∀(us:List Value),some tbl=some tbl∧E.length=E.length∧R.length=R.length∧M.length=M.length∧nE E∧nI R∧nR M∧(E.length≤d∧(M.length≤(8:Nat)→∀(r:List Int),List.Mem r M→r.length≤d))∧((!d6 E R M)=true→us=us∧b.len=(0:Nat)∧((c=bif d6 E R M then e else c)∧b.len=(0:Nat)∧True)∧((1:Int)=bif d6 E R M then c else(1:Int))∧True)∧((!d6 E R M)=false→∀(us_1:List Value),E.length=E.length∧R.length=R.length∧M.length=M.length∧nE E∧nI R∧nR M∧(e≤(64:Int)∧(E.length≤d∧(M.length≤(8:Nat)→∀(r:List Int),List.Mem r M→r.length≤d))∧M.length≤(8:Nat))∧us_1=us_1∧us=us∧(AV.ps a).len=b.len∧((∀(j:Nat),j < b.len→(b8 (c,c) a j).fst=(b8 (c,c) (o9 (d6 E R M) a) j).fst)∧(∀(j:Nat),j < b.len→(b8 (c,c) a j).snd=(b8 (c,c) (o9 (d6 E R M) a) j).snd)∧True)∧((e=bif d6 E R M then e else c)∧(AV.ps a).len=b.len∧True)∧(c=bif d6 E R M then c else(1:Int))∧True)):=by kernel_rfl
theorem v29 (E:List Ev) (R:List Int) (M:List (List Int)) (h:SzG E M):q29D E R M:=by
 rw[d57]
 cases hv:d6 E R M
 ·simp only[eq_self,true_and,and_true,z0p,imp_self,m5,n5,o0,g8,i9,PLoop.of,s5,AV.len,j5,z0v,j8,l5,l6,m6,m7,m8,o9,z0m,z2y]
  exact⟨⟨h.1,h.2⟩,by simp⟩
 ·obtain⟨hG,hN⟩:=a25 hv h
  obtain⟨hM,hR⟩:=a2a hv
  simp only[eq_self,true_and,and_true,z0p,imp_self,m5,n5,o0,g8,i9,PLoop.of,s5,AV.len,j5,z0v,j8,l5,l6,m6,m7,m8,o9,z0f,Bool.not_true]
  refine⟨⟨h.1,h.2⟩,by simp,?_⟩
  first | exact⟨by omega,⟨h.1,h.2⟩,by omega⟩ | omega
theorem n29 (nm:List (Option AV)):CallOk Tryz.prog GL 29 (n8 EL gbT nm [PG] (a4h i7)):=a4r Tryz.func29 fo29 fun av pre rv h=>by
 unfold a4h at h; split at h <;> cases h
 exact⟨⟨rfl,fun t a e=>by cases e <;> exact z0k _ _⟩,fun hp=>⟨_,v29 _ _ _ (hp _ (.head _)),rfl,(m9 (n33 _) (m9 (a0y (n62 _)) v4)),(a3q c0l (a3q ii77 v5))⟩⟩
theorem fo11:o8 Tryz.prog 11:=⟨Tryz.f11,Tryz.func11,by kernel_rfl,by kernel_rfl⟩
theorem fo48:o8 Tryz.prog 48:=⟨Tryz.f48,Tryz.func48,by kernel_rfl,by kernel_rfl⟩
theorem ii48 {l:List (Nat × PLoop)} {t:List (Nat × (List Slot→List MBlk→List Gh))} {s:List Nat}:a1q (48,⟨Tryz.f48,l,t,s⟩):=⟨Tryz.func48,fo48⟩
def q11D (E:List Ev) (R:List Int) (M:List (List Int)):Prop:=n9 (({ g:=true,calls:=[a49 (nmT E R M),kRl 49 (a6g pgF i6) (nmT E R M)],inl:=c0r 48 Tryz.f48 }:Kit)).tab Tryz.f11 [b4k E R M] (grT E R M) ((b7b (d6 E R M) E.length (b9 E.length (i6 E R M))).post EL)
theorem d4z (E:List Ev) (R:List Int) (M:List (List Int)):q11D E R M=(
 let a:=b9 (↑E.length:Int) (i6 E R M)
 let b:=AV.ps (o9 (d6 E R M) a)
 let c:=(0:Int)
 let d:=(1099511627776:Nat)
 let e:=(↑E.length:Int)
 ∀(us:List Value),some tbl=some tbl∧E.length=E.length∧R.length=R.length∧M.length=M.length∧nE E∧nI R∧nR M∧(E.length≤d∧(M.length≤(8:Nat)→∀(r:List Int),List.Mem r M→r.length≤d))∧((!d6 E R M)=true→us=us∧b.len=(0:Nat)∧((c=bif d6 E R M then e else c)∧b.len=(0:Nat)∧True)∧((1:Int)=bif d6 E R M then c else(1:Int))∧True)∧((!d6 E R M)=false→∀(us_1:List Value),E.length=E.length∧R.length=R.length∧M.length=M.length∧nE E∧nI R∧nR M∧(e≤(64:Int)∧R.length=E.length∧(E.length≤d∧(M.length≤(8:Nat)→∀(r:List Int),List.Mem r M→r.length≤d))∧M.length≤(8:Nat))∧us_1=us_1∧us=us∧(AV.ps a).len=b.len∧((∀(j:Nat),j < b.len→(b8 (c,c) a j).fst=(b8 (c,c) (o9 (d6 E R M) a) j).fst)∧(∀(j:Nat),j < b.len→(b8 (c,c) a j).snd=(b8 (c,c) (o9 (d6 E R M) a) j).snd)∧True)∧((e=bif d6 E R M then e else c)∧(AV.ps a).len=b.len∧True)∧(c=bif d6 E R M then c else(1:Int))∧True)):=by kernel_rfl
theorem v11 (E:List Ev) (R:List Int) (M:List (List Int)) (h:SzG E M):q11D E R M:=by
 rw[d4z]
 cases hv:d6 E R M
 ·simp only[eq_self,true_and,and_true,z0p,imp_self,m5,n5,o0,g8,i9,PLoop.of,s5,AV.len,j5,z0v,j8,l5,l6,m6,m7,m8,o9,z0m,z2y]
  exact⟨⟨h.1,h.2⟩,by simp⟩
 ·obtain⟨hG,hN⟩:=a25 hv h
  obtain⟨hM,hR⟩:=a2a hv
  simp only[eq_self,true_and,and_true,z0p,imp_self,m5,n5,o0,g8,i9,PLoop.of,s5,AV.len,j5,z0v,j8,l5,l6,m6,m7,m8,o9,z0f,Bool.not_true]
  refine⟨⟨h.1,h.2⟩,by simp,?_⟩
  first | exact⟨by omega,hR,⟨h.1,h.2⟩,by omega⟩ | omega
theorem n11 (nm:List (Option AV)):CallOk Tryz.prog GL 11 (n8 EL gbT nm [PG] (a4h i6)):=a4r Tryz.func11 fo11 fun av pre rv h=>by
 unfold a4h at h; split at h <;> cases h
 exact⟨⟨rfl,fun t a e=>by cases e <;> exact z0k _ _⟩,fun hp=>⟨_,v11 _ _ _ (hp _ (.head _)),rfl,(m9 (n33 _) (m9 (a0y (n49 _)) v4)),(a3q c0l (a3q ii48 v5))⟩⟩
theorem fo13:o8 Tryz.prog 13:=⟨Tryz.f13,Tryz.func13,by kernel_rfl,by kernel_rfl⟩
theorem fo51:o8 Tryz.prog 51:=⟨Tryz.f51,Tryz.func51,by kernel_rfl,by kernel_rfl⟩
theorem ii51 {l:List (Nat × PLoop)} {t:List (Nat × (List Slot→List MBlk→List Gh))} {s:List Nat}:a1q (51,⟨Tryz.f51,l,t,s⟩):=⟨Tryz.func51,fo51⟩
def q13D (E:List Ev) (R:List Int) (M:List (List Int)):Prop:=n9 (({ g:=true,calls:=[a49 (nmT E R M),kRl 52 (a6g pgS w9) (nmT E R M)],inl:=c0r 51 Tryz.f51 }:Kit)).tab Tryz.f13 [b4k E R M] (grT E R M) ((b7b (d6 E R M) E.length (b9 E.length (w9 E R M))).post EL)
theorem d50 (E:List Ev) (R:List Int) (M:List (List Int)):q13D E R M=(
 let a:=b9 (↑E.length:Int) (w9 E R M)
 let b:=AV.ps (o9 (d6 E R M) a)
 let c:=(↑E.length:Int)
 let d:=(0:Int)
 ∀(us:List Value),some tbl=some tbl∧E.length=E.length∧R.length=R.length∧M.length=M.length∧nE E∧nI R∧nR M∧(E.length≤(1099511627776:Nat)∧(M.length≤(8:Nat)→∀(r:List Int),List.Mem r M→r.length≤(1099511627776:Nat)))∧((!d6 E R M)=true→us=us∧b.len=(0:Nat)∧((d=bif d6 E R M then c else d)∧b.len=(0:Nat)∧True)∧((1:Int)=bif d6 E R M then d else(1:Int))∧True)∧((!d6 E R M)=false→∀(us_1:List Value),E.length=E.length∧R.length=R.length∧M.length=M.length∧nE E∧nI R∧nR M∧(c≤(64:Int)∧R.length=E.length∧∀(j:Int),d≤j→j < c→inA R j < c)∧us_1=us_1∧us=us∧(AV.ps a).len=b.len∧((∀(j:Nat),j < b.len→(b8 (d,d) a j).fst=(b8 (d,d) (o9 (d6 E R M) a) j).fst)∧(∀(j:Nat),j < b.len→(b8 (d,d) a j).snd=(b8 (d,d) (o9 (d6 E R M) a) j).snd)∧True)∧((c=bif d6 E R M then c else d)∧(AV.ps a).len=b.len∧True)∧(d=bif d6 E R M then d else(1:Int))∧True)):=by kernel_rfl
theorem v13 (E:List Ev) (R:List Int) (M:List (List Int)) (h:SzG E M):q13D E R M:=by
 rw[d50]
 cases hv:d6 E R M
 ·simp only[eq_self,true_and,and_true,z0p,imp_self,m5,n5,o0,g8,i9,PLoop.of,s5,AV.len,j5,z0v,j8,l5,l6,m6,m7,m8,o9,z0m,z2y]
  exact⟨⟨h.1,h.2⟩,by simp⟩
 ·obtain⟨hG,hN⟩:=a25 hv h
  obtain⟨hM,hR⟩:=a2a hv
  simp only[eq_self,true_and,and_true,z0p,imp_self,m5,n5,o0,g8,i9,PLoop.of,s5,AV.len,j5,z0v,j8,l5,l6,m6,m7,m8,o9,z0f,Bool.not_true]
  refine⟨⟨h.1,h.2⟩,by simp,?_⟩
  first | exact⟨by omega,⟨hG.2.1.1,hG.2.1.2⟩⟩ | omega
theorem n13 (nm:List (Option AV)):CallOk Tryz.prog GL 13 (n8 EL gbT nm [PG] (a4h w9)):=a4r Tryz.func13 fo13 fun av pre rv h=>by
 unfold a4h at h; split at h <;> cases h
 exact⟨⟨rfl,fun t a e=>by cases e <;> exact z0k _ _⟩,fun hp=>⟨_,v13 _ _ _ (hp _ (.head _)),rfl,(m9 (n33 _) (m9 (a0y (n52 _)) v4)),(a3q c0l (a3q ii51 v5))⟩⟩
def a3v (n:Nat) (a b c:Pf):List Pq:=b9 n (wF (e9 (b9 n a ++ b9 n b ++ b9 n c)) n)
def b0m (a b c:GF):SpG:=fun
 | [.ag [.es E,.is R,.rs M]]=>some ([SzG E M],b7b (d6 E R M) E.length (a3v E.length (a E R M) (b E R M) (c E R M)))
 | _=>none
def a0g (n:Nat) (a b c:Pf):List (Int × List Pq):=[((n:Int),b9 n a),((n:Int),b9 n b),((n:Int),b9 n c)]
theorem a7l (f:Pf) {n:Nat} (hN:n≤64):d9 (n:Int) (b9 n f)=true:=by rw[b0e]; exact(a7k f hN).1
theorem b72 (f:Pf) {n:Nat} (hN:n≤64):(b9 n f).length≤4096:=by
 rw[b0e]
 have h1:=a2z f n n
 have h3:n * n≤64 * 64:=z2x (by omega) (by omega)
 omega
theorem b63 {N:Int} {a b:List Pq} (ha:d9 N a=true) (hb:d9 N b=true):d9 N (a ++ b)=true:=by
 obtain⟨h1,h2,h3⟩:=y7.1 ha
 obtain⟨_,_,h4⟩:=y7.1 hb
 refine y7.2 ⟨h1,h2,fun p hp=>?_⟩
 rcases z0n.1 hp with hp | hp
 ·exact h3 p hp
 ·exact h4 p hp
theorem a72 (n:Nat) (a b c:Pf):o5 (a0g n a b c) (a0g n a b c).length=b9 n a ++ b9 n b ++ b9 n c:=by
 show [] ++ b9 n a ++ b9 n b ++ b9 n c=_
 rw[List.nil_append]
theorem b1p (a b c:Pf) {n:Nat} (hN:n≤64):((a0g n a b c).length≤64∧d9 (n:Int) (o5 (a0g n a b c) (a0g n a b c).length)=true)∧∀ j,j≤(a0g n a b c).length→(o5 (a0g n a b c) j).length≤1000000:=by
 have h1:=b72 a hN
 have h2:=b72 b hN
 have h3:=b72 c hN
 refine⟨⟨by simp[a0g],?_⟩,fun j hj=>?_⟩
 ·rw[a72]; exact b63 (b63 (a7l a hN) (a7l b hN)) (a7l c hN)
 ·have hj:j≤3:=hj
  match j,hj with
  | 0,_=>simp[o5]
  | 1,_=>show([] ++ b9 n a).length≤_; rw[List.nil_append]; omega
  | 2,_=>show([] ++ b9 n a ++ b9 n b).length≤_; rw[List.nil_append,z1b]; omega
  | 3,_=>show([] ++ b9 n a ++ b9 n b ++ b9 n c).length≤_; rw[List.nil_append,z1b,z1b]; omega
theorem b6v (n:Nat) (a b c:Pf):mkN (fun j=>(s6 (n:Int) (n:Int) (n:Int) j,mkN (fun i=>(s6 (fun j=>(b8 (0,0) (b9 n a) j).1) (fun j=>(b8 (0,0) (b9 n b) j).1) (fun j=>(b8 (0,0) (b9 n c) j).1) j i,s6 (fun j=>(b8 (0,0) (b9 n a) j).2) (fun j=>(b8 (0,0) (b9 n b) j).2) (fun j=>(b8 (0,0) (b9 n c) j).2) j i)) (s6 (b9 n a).length (b9 n b).length (b9 n c).length j))) 3=a0g n a b c:=by
 have e:∀ l:List Pq,mkN (fun i=>((b8 (0,0) l i).1,(b8 (0,0) l i).2)) l.length=l:=fun l=>m5 l
 show [_,_,_]=[_,_,_]
 simp only[s6,e]
theorem fo15:o8 Tryz.prog 15:=⟨Tryz.f15,Tryz.func15,by kernel_rfl,by kernel_rfl⟩
theorem fo53:o8 Tryz.prog 53:=⟨Tryz.f53,Tryz.func53,by kernel_rfl,by kernel_rfl⟩
theorem ii53 {l:List (Nat × PLoop)} {t:List (Nat × (List Slot→List MBlk→List Gh))} {s:List Nat}:a1q (53,⟨Tryz.f53,l,t,s⟩):=⟨Tryz.func53,fo53⟩
def q15D (E:List Ev) (R:List Int) (M:List (List Int)):Prop:=n9 (({ g:=true,calls:=[a49 (nmT E R M),kRl 55 (b4t pgE poG) (nmT E R M),kLis,kCol (nmT E R M),kRl 52 (a6g pgS w9) (nmT E R M),kClz (no 16 ++ [some (.rl (a0g E.length (poG E R M) (f9 E R M) (w9 E R M)))])],inl:=c0r 53 Tryz.f53 }:Kit)).tab Tryz.f15 [b4k E R M] (grT E R M) ((b7b (d6 E R M) E.length (a3v E.length (poG E R M) (f9 E R M) (w9 E R M))).post EL)
theorem d51 (E:List Ev) (R:List Int) (M:List (List Int)):q15D E R M=(
 let a:=a0g E.length (poG E R M) (f9 E R M) (w9 E R M)
 let b:=(↑E.length:Int)
 let c:=o9 (d6 E R M) (a3v E.length (poG E R M) (f9 E R M) (w9 E R M))
 let d:=((0:Int),(0:Int))
 let e:=b9 b (wF (e9 (o5 a a.length)) E.length)
 let f:=b9 b (poG E R M)
 let g:=b9 b (f9 E R M)
 let h:=b9 b (w9 E R M)
 let k:=AV.ps c
 let l:=(0:Int)
 ∀(us:List Value),some tbl=some tbl∧E.length=E.length∧R.length=R.length∧M.length=M.length∧nE E∧nI R∧nR M∧(E.length≤(1099511627776:Nat)∧(M.length≤(8:Nat)→∀(r:List Int),List.Mem r M→r.length≤(1099511627776:Nat)))∧((!d6 E R M)=true→us=us∧k.len=(0:Nat)∧((l=bif d6 E R M then b else l)∧k.len=(0:Nat)∧True)∧((1:Int)=bif d6 E R M then l else(1:Int))∧True)∧((!d6 E R M)=false→∀(us_1:List Value),E.length=E.length∧R.length=R.length∧M.length=M.length∧nE E∧nI R∧nR M∧b≤(64:Int)∧E.length=E.length∧R.length=R.length∧M.length=M.length∧nE E∧nI R∧nR M∧(b=b∧b≤(64:Int))∧E.length=E.length∧R.length=R.length∧M.length=M.length∧nE E∧nI R∧nR M∧(b≤(64:Int)∧R.length=E.length∧∀(j:Int),l≤j→j < b→inA R j < b)∧(AV.ps f).len=(AV.ps f).len∧(AV.ps g).len=(AV.ps g).len∧(AV.ps h).len=(AV.ps h).len∧(3:Nat)=(3:Nat)∧mkN (fun(j:Nat)=>(s6 b b b j,mkN (fun(i:Nat)=>(s6 (fun(j:Nat)=>(b8 d f j).fst) (fun(j:Nat)=>(b8 d g j).fst) (fun(j:Nat)=>(b8 d h j).fst) j i,s6 (fun(j:Nat)=>(b8 d f j).snd) (fun(j:Nat)=>(b8 d g j).snd) (fun(j:Nat)=>(b8 d h j).snd) j i)) (s6 (AV.ps f).len (AV.ps g).len (AV.ps h).len j))) (3:Nat)=a0g E.length (poG E R M) (f9 E R M) (w9 E R M)∧((a.length≤(64:Nat)∧d9 b (o5 a a.length)=true)∧∀(j:Nat),j≤a.length→(o5 a j).length≤(1000000:Nat))∧us_1=us_1∧us=us∧(AV.ps e).len=k.len∧((∀(j:Nat),j < k.len→(b8 d e j).fst=(b8 d c j).fst)∧(∀(j:Nat),j < k.len→(b8 d e j).snd=(b8 d c j).snd)∧True)∧((b=bif d6 E R M then b else l)∧(AV.ps e).len=k.len∧True)∧(l=bif d6 E R M then l else(1:Int))∧True)):=by kernel_rfl
theorem v15 (E:List Ev) (R:List Int) (M:List (List Int)) (h:SzG E M):q15D E R M:=by
 rw[d51]
 cases hv:d6 E R M
 ·simp only[eq_self,true_and,and_true,z0p,imp_self,m5,n5,o0,g8,i9,PLoop.of,s5,AV.len,j5,z0v,j8,l5,l6,m6,m7,m8,o9,z0m,z2y]
  exact⟨⟨h.1,h.2⟩,by simp⟩
 ·obtain⟨hG,hN⟩:=a25 hv h
  obtain⟨hM,hR⟩:=a2a hv
  simp only[eq_self,true_and,and_true,z0p,imp_self,m5,n5,o0,g8,i9,PLoop.of,s5,AV.len,j5,z0v,j8,l5,l6,m6,m7,m8,o9,z0f,Bool.not_true,b6v,a3v,a72]
  refine⟨⟨h.1,h.2⟩,by simp,(by omega),(by omega),⟨by omega,⟨hG.2.1.1,hG.2.1.2⟩⟩,?_⟩
  have h5:=b1p (poG E R M) (f9 E R M) (w9 E R M) hN
  rw[a72] at h5
  exact h5
theorem n15 (nm:List (Option AV)):CallOk Tryz.prog GL 15 (n8 EL gbT nm [PG] (b0m poG f9 w9)):=a4r Tryz.func15 fo15 fun av pre rv h=>by
 unfold b0m at h; split at h <;> cases h
 exact⟨⟨rfl,fun t a e=>by cases e <;> exact z0k _ _⟩,fun hp=>⟨_,v15 _ _ _ (hp _ (.head _)),rfl,(m9 (n33 _) (m9 (a0y (n55 _)) (m9 (a0y n57) (m9 (a0y (n56 _)) (m9 (a0y (n52 _)) (m9 (a0y (n54 _)) v4)))))),(a3q c0l (a3q ii53 v5))⟩⟩
theorem fo17:o8 Tryz.prog 17:=⟨Tryz.f17,Tryz.func17,by kernel_rfl,by kernel_rfl⟩
theorem fo60:o8 Tryz.prog 60:=⟨Tryz.f60,Tryz.func60,by kernel_rfl,by kernel_rfl⟩
theorem ii60 {l:List (Nat × PLoop)} {t:List (Nat × (List Slot→List MBlk→List Gh))} {s:List Nat}:a1q (60,⟨Tryz.f60,l,t,s⟩):=⟨Tryz.func60,fo60⟩
def q17D (E:List Ev) (R:List Int) (M:List (List Int)):Prop:=n9 (({ g:=true,calls:=[a49 (nmT E R M),kRl 61 (b4t pgR rfG) (nmT E R M),kRl 62 (a6g pgM i7) (nmT E R M),kRl 49 (a6g pgF i6) (nmT E R M),kClz (no 14 ++ [some (.rl (a0g E.length (rfG E R M) (i7 E R M) (i6 E R M)))])],inl:=c0r 60 Tryz.f60 }:Kit)).tab Tryz.f17 [b4k E R M] (grT E R M) ((b7b (d6 E R M) E.length (a3v E.length (rfG E R M) (i7 E R M) (i6 E R M))).post EL)
theorem d52 (E:List Ev) (R:List Int) (M:List (List Int)):q17D E R M=(
 let a:=a0g E.length (rfG E R M) (i7 E R M) (i6 E R M)
 let b:=o9 (d6 E R M) (a3v E.length (rfG E R M) (i7 E R M) (i6 E R M))
 let c:=(↑E.length:Int)
 let d:=((0:Int),(0:Int))
 let e:=b9 c (wF (e9 (o5 a a.length)) E.length)
 let f:=(1099511627776:Nat)
 let g:=b9 c (rfG E R M)
 let h:=b9 c (i7 E R M)
 let k:=b9 c (i6 E R M)
 let l:=AV.ps b
 let m:=(0:Int)
 ∀(us:List Value),some tbl=some tbl∧E.length=E.length∧R.length=R.length∧M.length=M.length∧nE E∧nI R∧nR M∧(E.length≤f∧(M.length≤(8:Nat)→∀(r:List Int),List.Mem r M→r.length≤f))∧((!d6 E R M)=true→us=us∧l.len=(0:Nat)∧((m=bif d6 E R M then c else m)∧l.len=(0:Nat)∧True)∧((1:Int)=bif d6 E R M then m else(1:Int))∧True)∧((!d6 E R M)=false→∀(us_1:List Value),E.length=E.length∧R.length=R.length∧M.length=M.length∧nE E∧nI R∧nR M∧(c≤(64:Int)∧R.length=E.length)∧E.length=E.length∧R.length=R.length∧M.length=M.length∧nE E∧nI R∧nR M∧(c≤(64:Int)∧(E.length≤f∧(M.length≤(8:Nat)→∀(r:List Int),List.Mem r M→r.length≤f))∧M.length≤(8:Nat))∧E.length=E.length∧R.length=R.length∧M.length=M.length∧nE E∧nI R∧nR M∧(c≤(64:Int)∧R.length=E.length∧(E.length≤f∧(M.length≤(8:Nat)→∀(r:List Int),List.Mem r M→r.length≤f))∧M.length≤(8:Nat))∧(AV.ps g).len=(AV.ps g).len∧(AV.ps h).len=(AV.ps h).len∧(AV.ps k).len=(AV.ps k).len∧(3:Nat)=(3:Nat)∧mkN (fun(j:Nat)=>(s6 c c c j,mkN (fun(i:Nat)=>(s6 (fun(j:Nat)=>(b8 d g j).fst) (fun(j:Nat)=>(b8 d h j).fst) (fun(j:Nat)=>(b8 d k j).fst) j i,s6 (fun(j:Nat)=>(b8 d g j).snd) (fun(j:Nat)=>(b8 d h j).snd) (fun(j:Nat)=>(b8 d k j).snd) j i)) (s6 (AV.ps g).len (AV.ps h).len (AV.ps k).len j))) (3:Nat)=a0g E.length (rfG E R M) (i7 E R M) (i6 E R M)∧((a.length≤(64:Nat)∧d9 c (o5 a a.length)=true)∧∀(j:Nat),j≤a.length→(o5 a j).length≤(1000000:Nat))∧us_1=us_1∧us=us∧(AV.ps e).len=l.len∧((∀(j:Nat),j < l.len→(b8 d e j).fst=(b8 d b j).fst)∧(∀(j:Nat),j < l.len→(b8 d e j).snd=(b8 d b j).snd)∧True)∧((c=bif
 d6 E R M then c else m)∧(AV.ps e).len=l.len∧True)∧(m=bif d6 E R M then m else(1:Int))∧True)):=by kernel_rfl
theorem v17 (E:List Ev) (R:List Int) (M:List (List Int)) (h:SzG E M):q17D E R M:=by
 rw[d52]
 cases hv:d6 E R M
 ·simp only[eq_self,true_and,and_true,z0p,imp_self,m5,n5,o0,g8,i9,PLoop.of,s5,AV.len,j5,z0v,j8,l5,l6,m6,m7,m8,o9,z0m,z2y]
  exact⟨⟨h.1,h.2⟩,by simp⟩
 ·obtain⟨hG,hN⟩:=a25 hv h
  obtain⟨hM,hR⟩:=a2a hv
  simp only[eq_self,true_and,and_true,z0p,imp_self,m5,n5,o0,g8,i9,PLoop.of,s5,AV.len,j5,z0v,j8,l5,l6,m6,m7,m8,o9,z0f,Bool.not_true,b6v,a3v,a72]
  refine⟨⟨h.1,h.2⟩,by simp,⟨by omega,hR⟩,⟨by omega,⟨h.1,h.2⟩,by omega⟩,⟨by omega,hR,⟨h.1,h.2⟩,by omega⟩,?_⟩
  have h5:=b1p (rfG E R M) (i7 E R M) (i6 E R M) hN
  rw[a72] at h5
  exact h5
theorem n17 (nm:List (Option AV)):CallOk Tryz.prog GL 17 (n8 EL gbT nm [PG] (b0m rfG i7 i6)):=a4r Tryz.func17 fo17 fun av pre rv h=>by
 unfold b0m at h; split at h <;> cases h
 exact⟨⟨rfl,fun t a e=>by cases e <;> exact z0k _ _⟩,fun hp=>⟨_,v17 _ _ _ (hp _ (.head _)),rfl,(m9 (n33 _) (m9 (a0y (n61 _)) (m9 (a0y (n62 _)) (m9 (a0y (n49 _)) (m9 (a0y (n54 _)) v4))))),(a3q c0l (a3q ii60 v5))⟩⟩
def j9 (a b:Int):Int:=bif decide (a < b) then -1 else bif decide (a > b) then 1 else 0
def orF:List Int→Int
 | []=>0
 | x :: r=>bif x != 0 then x else orF r
def a4y (a b:Ev):Int:=orF [j9 a.ag b.ag,j9 a.ix b.ix,j9 a.k b.k,j9 a.ob b.ob,j9 a.mu b.mu,j9 a.en b.en,j9 a.od b.od,j9 a.rd b.rd,j9 a.wr b.wr]
def u6 {α:Type} (f:α→α→Int):List α→List α→Int
 | [],[]=>0
 | [],_ :: _=>-1
 | _ :: _,[]=>1
 | x :: r,y :: s=>bif f x y != 0 then f x y else u6 f r s
def a18 (a:List (List Int)) (x:Nat):List Int:=b8 [] a x
def a1o (f:Nat→Int):Nat→Int
 | 0=>0
 | n + 1=>bif a1o f n != 0 then a1o f n else f n
def b2n (a b:List (List Int)):Int:=a1o (fun x=>u6 j9 (a18 a x) (a18 b x)) (if b.length > a.length then b.length else a.length)
theorem c5v {f:Nat→Int} {n j:Nat} (h0:a1o f j=0) (hf:f j≠0) (hj:j < n):a1o f n=f j:=by
 have h1:a1o f (j + 1)=f j:=by
  have:(a1o f j != 0)=false:=by simp[h0]
  rw[a1o,this]; rfl
 have key:∀ d,a1o f (j + 1 + d)=f j:=by
  intro d
  induction d with
  | zero=>exact h1
  | succ d ih =>
   rw[← z2v,a1o,ih]
   have:(f j != 0)=true:=by simpa using hf
   rw[this]; rfl
 have:=key (n - (j + 1))
 rwa [show j + 1 + (n - (j + 1))=n by omega] at this
theorem c0h {f:Nat→Int} {j:Nat} (h0:a1o f j=0) (hf:f j=0):a1o f (j + 1)=0:=by
 have:(a1o f j != 0)=false:=by simp[h0]
 rw[a1o,this]; exact hf
theorem c9w {l:List Int}:∀ {j:Nat},(∀ q,q < j→b8 0 l q=0)→j < l.length→b8 0 l j≠0→orF l=b8 0 l j:=by
 induction l with
 | nil=>intro j _ h; simp at h
 | cons x r ih =>
  intro j h1 h2 h3
  cases j with
  | zero =>
   have:(x != 0)=true:=by simpa [b8] using h3
   rw[orF,this]; rfl
  | succ j =>
   have hx:x=0:=h1 0 (by omega)
   subst hx
   have:=ih (j:=j) (fun q hq=>h1 (q + 1) (by omega)) (by simpa using h2) h3
   simpa [orF,b8] using this
theorem c6z {l:List Int}:(∀ q,q < l.length→b8 0 l q=0)→orF l=0:=by
 induction l with
 | nil=>intro _; rfl
 | cons x r ih =>
  intro h
  have hx:x=0:=h 0 (by simp)
  subst hx
  simpa [orF] using ih fun q hq=>h (q + 1) (by simpa using hq)
section
variable {α:Type} {f:α→α→Int} {d:α}
theorem a8u:∀ {l m:List α} {j:Nat},(∀ q,q < j→f (b8 d l q) (b8 d m q)=0)→j < l.length→j < m.length→f (b8 d l j) (b8 d m j)≠0→u6 f l m=f (b8 d l j) (b8 d m j):=by
 intro l
 induction l with
 | nil=>intro m j _ h; simp at h
 | cons x r ih =>
  intro m j h1 h2 h3 h4
  cases m with
  | nil=>simp at h3
  | cons y s =>
   cases j with
   | zero =>
    have:(f x y != 0)=true:=by simpa [b8] using h4
    rw[u6,this]; rfl
   | succ j =>
    have hx:f x y=0:=h1 0 (by omega)
    have:=ih (m:=s) (j:=j) (fun q hq=>h1 (q + 1) (by omega)) (by simpa using h2) (by simpa using h3) h4
    rw[u6,hx]
    simpa [b8] using this
theorem a5c:∀ {l m:List α},(∀ q,q < l.length→q < m.length→f (b8 d l q) (b8 d m q)=0)→u6 f l m=bif decide (m.length < l.length) then 1 else bif decide (l.length < m.length) then -1 else 0:=by
 intro l
 induction l with
 | nil =>
  intro m _
  cases m <;> simp[u6]
 | cons x r ih =>
  intro m h
  cases m with
  | nil=>simp[u6]
  | cons y s =>
   have hx:f x y=0:=h 0 (by simp) (by simp)
   have:=ih (m:=s) fun q h1 h2=>h (q + 1) (by simpa using h1) (by simpa using h2)
   rw[u6,hx]
   simpa using this
end
def c1k:SpP:=fun | [.lf (.i a),.lf (.i b)]=>some ([],plI (j9 a b)) | _=>none
def c9l (n:Nat):Nat × (List MBlk→List SV→Option AR):=(n,n8 EL none [] [.lf .i,.lf .i] c1k)
def sOr:SpP:=fun | [.lf (.is l)]=>some ([L40 l.length],plI (orF l)) | _=>none
def kOr (nm:List (Option AV)):Nat × (List MBlk→List SV→Option AR):=(96,n8 EL none nm [.lf .is] sOr)
def d44:SpP:=fun | [.lf (.ev a),.lf (.ev b)]=>some ([],plI (a4y a b)) | _=>none
def kCmE:Nat × (List MBlk→List SV→Option AR):=(98,n8 EL none [] [.lf .ev,.lf .ev] d44)
def c4y:SpP:=fun | [.lf (.is l),.lf (.is m)]=>some ([L40 l.length],plI (u6 j9 l m)) | _=>none
def kCmL (nm:List (Option AV)):Nat × (List MBlk→List SV→Option AR):=(99,n8 EL none nm [.lf .is,.lf .is] c4y)
def d45:SpP:=fun | [.lf (.es l),.lf (.es m),.fc 98]=>some ([L40 l.length],plI (u6 a4y l m)) | _=>none
def kCmF (nm:List (Option AV)):Nat × (List MBlk→List SV→Option AR):=(97,n8 EL none nm [.lf .es,.lf .es,.fc 98] d45)
def SzR (M:List (List Int)):Prop:=∀ r∈M,L40 r.length
def d46:SpP:=fun | [.lf (.rs a),.lf (.rs b)]=>some ([(L40 a.length∧L40 b.length)∧SzR a],plI (b2n a b)) | _=>none
def kCmM (nm:List (Option AV)):Nat × (List MBlk→List SV→Option AR):=(92,n8 EL none nm [.lf .rs,.lf .rs] d46)
def a1c (_:Int):Bool:=false
def lOr (l:List Int) (t:Nat):LAnn:=s5 l.length t (fun j=>∀ q,q < j→b8 0 l q=0) (fun _=>[]) []
def b1e {α:Type} (f:α→α→Int) (d:α) (l m:List α) (t:Nat):LAnn:=s5 l.length t (fun j=>j≤m.length∧∀ q,q < j→f (b8 d l q) (b8 d m q)=0) (fun _=>[]) []
def b4o (a b:List (List Int)) (t:Nat):LAnn:=s5 (if b.length > a.length then b.length else a.length) t (fun j=>a1o (fun x=>u6 j9 (a18 a x) (a18 b x)) j=0) (fun _=>[]) []
end Go.Proofs.YtaeeaniofljmnaaGreatDoor

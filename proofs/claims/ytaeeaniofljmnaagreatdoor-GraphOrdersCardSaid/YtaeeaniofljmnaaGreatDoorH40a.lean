/-
  A part of the proof (H40a).
-/
import Derived.Test.YtaeeaniofljmnaaGreatDoorH35a
namespace Go.Proofs.YtaeeaniofljmnaaGreatDoor
set_option linter.unusedSimpArgs false
set_option linter.unusedVariables false
open Go Go.Proofs.YtaeeaniofljmnaaGreatDoor.Sx
set_option maxRecDepth 100000
theorem a2m {E:List Ev} {R:List Int} {M:List (List Int)} (hv:b8 E R M=true):M.length≤8∧R.length=E.length:=by
 simp only[b8,z0d,z1p] at hv
 exact⟨hv.1.1.1.2,hv.1.1.1.1.2⟩
theorem fo47:o6 Tryz.prog 47:=⟨Tryz.f47,Tryz.func47,by kernel_rfl,by kernel_rfl⟩
theorem b86 {l:List (Nat × PLoop)} {t:List (Nat × (List Slot→List MBlk→List Gh))} {s:List Nat}:a2e (47,⟨Tryz.f47,l,t,s⟩):=⟨Tryz.func47,fo47⟩
theorem fo25:o6 Tryz.prog 25:=⟨Tryz.f25,Tryz.func25,by kernel_rfl,by kernel_rfl⟩
theorem fo75:o6 Tryz.prog 75:=⟨Tryz.f75,Tryz.func75,by kernel_rfl,by kernel_rfl⟩
theorem ii75 {l:List (Nat × PLoop)} {t:List (Nat × (List Slot→List MBlk→List Gh))} {s:List Nat}:a2e (75,⟨Tryz.f75,l,t,s⟩):=⟨Tryz.func75,fo75⟩
def q25D (E:List Ev) (R:List Int) (M:List (List Int)):Prop:=n7 (({ g:=true,calls:=[a3k (nmT E R M),kRl 55 (b4u pgE poG) (nmT E R M)],inl:=b8j 75 Tryz.f75 }:Kit)).tab Tryz.f25 [a98 E R M] (grT E R M) ((a78 (b8 E R M) E.length (b7 E.length (poG E R M))).post EL)
theorem d5e (E:List Ev) (R:List Int) (M:List (List Int)):q25D E R M=(∀(us:List Value),some tbl=some tbl∧E.length=E.length∧R.length=R.length∧M.length=M.length∧nE E∧nI R∧nR M∧(E.length≤(1099511627776:Nat)∧(M.length≤(8:Nat)→∀(r:List Int),List.Mem r M→r.length≤(1099511627776:Nat)))∧((!b8 E R M)=true→us=us∧(AV.ps (i9 (b8 E R M) (b7 (↑E.length:Int) (poG E R M)))).len=(0:Nat)∧(((0:Int)=bif b8 E R M then(↑E.length:Int) else(0:Int))∧(AV.ps (i9 (b8 E R M) (b7 (↑E.length:Int) (poG E R M)))).len=(0:Nat)∧True)∧((1:Int)=bif b8 E R M then(0:Int) else(1:Int))∧True)∧((!b8 E R M)=false→∀(us_1:List Value),E.length=E.length∧R.length=R.length∧M.length=M.length∧nE E∧nI R∧nR M∧(↑E.length:Int)≤(64:Int)∧us_1=us_1∧us=us∧(AV.ps (b7 (↑E.length:Int) (poG E R M))).len=(AV.ps (i9 (b8 E R M) (b7 (↑E.length:Int) (poG E R M)))).len∧((∀(j:Nat),j < (AV.ps (i9 (b8 E R M) (b7 (↑E.length:Int) (poG E R M)))).len→(b6 ((0:Int),(0:Int)) (b7 (↑E.length:Int) (poG E R M)) j).fst=(b6 ((0:Int),(0:Int)) (i9 (b8 E R M) (b7 (↑E.length:Int) (poG E R M))) j).fst)∧(∀(j:Nat),j < (AV.ps (i9 (b8 E R M) (b7 (↑E.length:Int) (poG E R M)))).len→(b6 ((0:Int),(0:Int)) (b7 (↑E.length:Int) (poG E R M)) j).snd=(b6 ((0:Int),(0:Int)) (i9 (b8 E R M) (b7 (↑E.length:Int) (poG E R M))) j).snd)∧True)∧(((↑E.length :
 Int)=bif b8 E R M then(↑E.length:Int) else(0:Int))∧(AV.ps (b7 (↑E.length:Int) (poG E R M))).len=(AV.ps (i9 (b8 E R M) (b7 (↑E.length:Int) (poG E R M)))).len∧True)∧((0:Int)=bif b8 E R M then(0:Int) else(1:Int))∧True)):=by kernel_rfl
theorem v25 (E:List Ev) (R:List Int) (M:List (List Int)) (h:SzG E M):q25D E R M:=by
 rw[d5e]
 cases hv:b8 E R M
 ·simp only[eq_self,true_and,and_true,z0o,imp_self,m5,m6,m9,g7,g9,PLoop.of,p9,AV.len,i5,z0s,j4,j7,j8,l7,l8,l9,i9,z0l,z2r]
  exact⟨⟨h.1,h.2⟩,by simp⟩
 ·obtain⟨hG,hN⟩:=a0f hv h
  obtain⟨hM,hR⟩:=a2m hv
  simp only[eq_self,true_and,and_true,z0o,imp_self,m5,m6,m9,g7,g9,PLoop.of,p9,AV.len,i5,z0s,j4,j7,j8,l7,l8,l9,i9,z0g,z2z]
  refine⟨⟨h.1,h.2⟩,by simp,?_⟩
  first | exact(by omega) | omega
theorem n25 (nm:List (Option AV)):CallOk Tryz.prog GL 25 (n6 EL gbT nm [PG] (w9 poG)):=a4r Tryz.func25 fo25 fun av pre rv h=>by
 unfold w9 at h; split at h <;> cases h
 exact⟨⟨rfl,fun t a e=>by cases e <;> exact z0h _ _⟩,fun hp=>⟨_,v25 _ _ _ (hp _ (.head _)),rfl,(m4 (n33 _) (m4 (a11 (n55 _)) t6)),(a3f b86 (a3f ii75 t7))⟩⟩
theorem fo27:o6 Tryz.prog 27:=⟨Tryz.f27,Tryz.func27,by kernel_rfl,by kernel_rfl⟩
theorem fo76:o6 Tryz.prog 76:=⟨Tryz.f76,Tryz.func76,by kernel_rfl,by kernel_rfl⟩
theorem ii76 {l:List (Nat × PLoop)} {t:List (Nat × (List Slot→List MBlk→List Gh))} {s:List Nat}:a2e (76,⟨Tryz.f76,l,t,s⟩):=⟨Tryz.func76,fo76⟩
def q27D (E:List Ev) (R:List Int) (M:List (List Int)):Prop:=n7 (({ g:=true,calls:=[a3k (nmT E R M),kRl 61 (b4u pgR rfG) (nmT E R M)],inl:=b8j 76 Tryz.f76 }:Kit)).tab Tryz.f27 [a98 E R M] (grT E R M) ((a78 (b8 E R M) E.length (b7 E.length (rfG E R M))).post EL)
theorem d5g (E:List Ev) (R:List Int) (M:List (List Int)):q27D E R M=(∀(us:List Value),some tbl=some tbl∧E.length=E.length∧R.length=R.length∧M.length=M.length∧nE E∧nI R∧nR M∧(E.length≤(1099511627776:Nat)∧(M.length≤(8:Nat)→∀(r:List Int),List.Mem r M→r.length≤(1099511627776:Nat)))∧((!b8 E R M)=true→us=us∧(AV.ps (i9 (b8 E R M) (b7 (↑E.length:Int) (rfG E R M)))).len=(0:Nat)∧(((0:Int)=bif b8 E R M then(↑E.length:Int) else(0:Int))∧(AV.ps (i9 (b8 E R M) (b7 (↑E.length:Int) (rfG E R M)))).len=(0:Nat)∧True)∧((1:Int)=bif b8 E R M then(0:Int) else(1:Int))∧True)∧((!b8 E R M)=false→∀(us_1:List Value),E.length=E.length∧R.length=R.length∧M.length=M.length∧nE E∧nI R∧nR M∧((↑E.length:Int)≤(64:Int)∧R.length=E.length)∧us_1=us_1∧us=us∧(AV.ps (b7 (↑E.length:Int) (rfG E R M))).len=(AV.ps (i9 (b8 E R M) (b7 (↑E.length:Int) (rfG E R M)))).len∧((∀(j:Nat),j < (AV.ps (i9 (b8 E R M) (b7 (↑E.length:Int) (rfG E R M)))).len→(b6 ((0:Int),(0:Int)) (b7 (↑E.length:Int) (rfG E R M)) j).fst=(b6 ((0:Int),(0:Int)) (i9 (b8 E R M) (b7 (↑E.length:Int) (rfG E R M))) j).fst)∧(∀(j:Nat),j < (AV.ps (i9 (b8 E R M) (b7 (↑E.length:Int) (rfG E R M)))).len→(b6 ((0:Int),(0:Int)) (b7 (↑E.length:Int) (rfG E R M)) j).snd=(b6 ((0:Int),(0:Int)) (i9 (b8 E R M) (b7 (↑E.length:Int) (rfG E R M))) j).snd) ∧
 True)∧(((↑E.length:Int)=bif b8 E R M then(↑E.length:Int) else(0:Int))∧(AV.ps (b7 (↑E.length:Int) (rfG E R M))).len=(AV.ps (i9 (b8 E R M) (b7 (↑E.length:Int) (rfG E R M)))).len∧True)∧((0:Int)=bif b8 E R M then(0:Int) else(1:Int))∧True)):=by kernel_rfl
theorem v27 (E:List Ev) (R:List Int) (M:List (List Int)) (h:SzG E M):q27D E R M:=by
 rw[d5g]
 cases hv:b8 E R M
 ·simp only[eq_self,true_and,and_true,z0o,imp_self,m5,m6,m9,g7,g9,PLoop.of,p9,AV.len,i5,z0s,j4,j7,j8,l7,l8,l9,i9,z0l,z2r]
  exact⟨⟨h.1,h.2⟩,by simp⟩
 ·obtain⟨hG,hN⟩:=a0f hv h
  obtain⟨hM,hR⟩:=a2m hv
  simp only[eq_self,true_and,and_true,z0o,imp_self,m5,m6,m9,g7,g9,PLoop.of,p9,AV.len,i5,z0s,j4,j7,j8,l7,l8,l9,i9,z0g,z2z]
  refine⟨⟨h.1,h.2⟩,by simp,?_⟩
  first | exact⟨by omega,hR⟩ | omega
theorem n27 (nm:List (Option AV)):CallOk Tryz.prog GL 27 (n6 EL gbT nm [PG] (w9 rfG)):=a4r Tryz.func27 fo27 fun av pre rv h=>by
 unfold w9 at h; split at h <;> cases h
 exact⟨⟨rfl,fun t a e=>by cases e <;> exact z0h _ _⟩,fun hp=>⟨_,v27 _ _ _ (hp _ (.head _)),rfl,(m4 (n33 _) (m4 (a11 (n61 _)) t6)),(a3f b86 (a3f ii76 t7))⟩⟩
theorem fo29:o6 Tryz.prog 29:=⟨Tryz.f29,Tryz.func29,by kernel_rfl,by kernel_rfl⟩
theorem fo77:o6 Tryz.prog 77:=⟨Tryz.f77,Tryz.func77,by kernel_rfl,by kernel_rfl⟩
theorem ii77 {l:List (Nat × PLoop)} {t:List (Nat × (List Slot→List MBlk→List Gh))} {s:List Nat}:a2e (77,⟨Tryz.f77,l,t,s⟩):=⟨Tryz.func77,fo77⟩
def q29D (E:List Ev) (R:List Int) (M:List (List Int)):Prop:=n7 (({ g:=true,calls:=[a3k (nmT E R M),kRl 62 (a6k pgM i4) (nmT E R M)],inl:=b8j 77 Tryz.f77 }:Kit)).tab Tryz.f29 [a98 E R M] (grT E R M) ((a78 (b8 E R M) E.length (b7 E.length (i4 E R M))).post EL)
theorem d5i (E:List Ev) (R:List Int) (M:List (List Int)):q29D E R M=(∀(us:List Value),some tbl=some tbl∧E.length=E.length∧R.length=R.length∧M.length=M.length∧nE E∧nI R∧nR M∧(E.length≤(1099511627776:Nat)∧(M.length≤(8:Nat)→∀(r:List Int),List.Mem r M→r.length≤(1099511627776:Nat)))∧((!b8 E R M)=true→us=us∧(AV.ps (i9 (b8 E R M) (b7 (↑E.length:Int) (i4 E R M)))).len=(0:Nat)∧(((0:Int)=bif b8 E R M then(↑E.length:Int) else(0:Int))∧(AV.ps (i9 (b8 E R M) (b7 (↑E.length:Int) (i4 E R M)))).len=(0:Nat)∧True)∧((1:Int)=bif b8 E R M then(0:Int) else(1:Int))∧True)∧((!b8 E R M)=false→∀(us_1:List Value),E.length=E.length∧R.length=R.length∧M.length=M.length∧nE E∧nI R∧nR M∧((↑E.length:Int)≤(64:Int)∧(E.length≤(1099511627776:Nat)∧(M.length≤(8:Nat)→∀(r:List Int),List.Mem r M→r.length≤(1099511627776:Nat)))∧M.length≤(8:Nat))∧us_1=us_1∧us=us∧(AV.ps (b7 (↑E.length:Int) (i4 E R M))).len=(AV.ps (i9 (b8 E R M) (b7 (↑E.length:Int) (i4 E R M)))).len∧((∀(j:Nat),j < (AV.ps (i9 (b8 E R M) (b7 (↑E.length:Int) (i4 E R M)))).len→(b6 ((0:Int),(0:Int)) (b7 (↑E.length:Int) (i4 E R M)) j).fst=(b6 ((0:Int),(0:Int)) (i9 (b8 E R M) (b7 (↑E.length:Int) (i4 E R M))) j).fst)∧(∀(j:Nat),j < (AV.ps (i9 (b8 E R M) (b7 (↑E.length:Int) (i4 E R M)))).len→(b6 ((0:Int),(0:Int)) (b7
 (↑E.length:Int) (i4 E R M)) j).snd=(b6 ((0:Int),(0:Int)) (i9 (b8 E R M) (b7 (↑E.length:Int) (i4 E R M))) j).snd)∧True)∧(((↑E.length:Int)=bif b8 E R M then(↑E.length:Int) else(0:Int))∧(AV.ps (b7 (↑E.length:Int) (i4 E R M))).len=(AV.ps (i9 (b8 E R M) (b7 (↑E.length:Int) (i4 E R M)))).len∧True)∧((0:Int)=bif b8 E R M then(0:Int) else(1:Int))∧True)):=by kernel_rfl
theorem v29 (E:List Ev) (R:List Int) (M:List (List Int)) (h:SzG E M):q29D E R M:=by
 rw[d5i]
 cases hv:b8 E R M
 ·simp only[eq_self,true_and,and_true,z0o,imp_self,m5,m6,m9,g7,g9,PLoop.of,p9,AV.len,i5,z0s,j4,j7,j8,l7,l8,l9,i9,z0l,z2r]
  exact⟨⟨h.1,h.2⟩,by simp⟩
 ·obtain⟨hG,hN⟩:=a0f hv h
  obtain⟨hM,hR⟩:=a2m hv
  simp only[eq_self,true_and,and_true,z0o,imp_self,m5,m6,m9,g7,g9,PLoop.of,p9,AV.len,i5,z0s,j4,j7,j8,l7,l8,l9,i9,z0g,z2z]
  refine⟨⟨h.1,h.2⟩,by simp,?_⟩
  first | exact⟨by omega,⟨h.1,h.2⟩,by omega⟩ | omega
theorem n29 (nm:List (Option AV)):CallOk Tryz.prog GL 29 (n6 EL gbT nm [PG] (w9 i4)):=a4r Tryz.func29 fo29 fun av pre rv h=>by
 unfold w9 at h; split at h <;> cases h
 exact⟨⟨rfl,fun t a e=>by cases e <;> exact z0h _ _⟩,fun hp=>⟨_,v29 _ _ _ (hp _ (.head _)),rfl,(m4 (n33 _) (m4 (a11 (n62 _)) t6)),(a3f b86 (a3f ii77 t7))⟩⟩
theorem fo11:o6 Tryz.prog 11:=⟨Tryz.f11,Tryz.func11,by kernel_rfl,by kernel_rfl⟩
theorem fo48:o6 Tryz.prog 48:=⟨Tryz.f48,Tryz.func48,by kernel_rfl,by kernel_rfl⟩
theorem ii48 {l:List (Nat × PLoop)} {t:List (Nat × (List Slot→List MBlk→List Gh))} {s:List Nat}:a2e (48,⟨Tryz.f48,l,t,s⟩):=⟨Tryz.func48,fo48⟩
def q11D (E:List Ev) (R:List Int) (M:List (List Int)):Prop:=n7 (({ g:=true,calls:=[a3k (nmT E R M),kRl 49 (a6k pgF g8) (nmT E R M)],inl:=b8j 48 Tryz.f48 }:Kit)).tab Tryz.f11 [a98 E R M] (grT E R M) ((a78 (b8 E R M) E.length (b7 E.length (g8 E R M))).post EL)
theorem d58 (E:List Ev) (R:List Int) (M:List (List Int)):q11D E R M=(∀(us:List Value),some tbl=some tbl∧E.length=E.length∧R.length=R.length∧M.length=M.length∧nE E∧nI R∧nR M∧(E.length≤(1099511627776:Nat)∧(M.length≤(8:Nat)→∀(r:List Int),List.Mem r M→r.length≤(1099511627776:Nat)))∧((!b8 E R M)=true→us=us∧(AV.ps (i9 (b8 E R M) (b7 (↑E.length:Int) (g8 E R M)))).len=(0:Nat)∧(((0:Int)=bif b8 E R M then(↑E.length:Int) else(0:Int))∧(AV.ps (i9 (b8 E R M) (b7 (↑E.length:Int) (g8 E R M)))).len=(0:Nat)∧True)∧((1:Int)=bif b8 E R M then(0:Int) else(1:Int))∧True)∧((!b8 E R M)=false→∀(us_1:List Value),E.length=E.length∧R.length=R.length∧M.length=M.length∧nE E∧nI R∧nR M∧((↑E.length:Int)≤(64:Int)∧R.length=E.length∧(E.length≤(1099511627776:Nat)∧(M.length≤(8:Nat)→∀(r:List Int),List.Mem r M→r.length≤(1099511627776:Nat)))∧M.length≤(8:Nat))∧us_1=us_1∧us=us∧(AV.ps (b7 (↑E.length:Int) (g8 E R M))).len=(AV.ps (i9 (b8 E R M) (b7 (↑E.length:Int) (g8 E R M)))).len∧((∀(j:Nat),j < (AV.ps (i9 (b8 E R M) (b7 (↑E.length:Int) (g8 E R M)))).len→(b6 ((0:Int),(0:Int)) (b7 (↑E.length:Int) (g8 E R M)) j).fst=(b6 ((0:Int),(0:Int)) (i9 (b8 E R M) (b7 (↑E.length:Int) (g8 E R M))) j).fst)∧(∀(j:Nat),j < (AV.ps (i9 (b8 E R M) (b7 (↑E.length:Int) (g8 E R M)))).len→(b6 ((0 :
 Int),(0:Int)) (b7 (↑E.length:Int) (g8 E R M)) j).snd=(b6 ((0:Int),(0:Int)) (i9 (b8 E R M) (b7 (↑E.length:Int) (g8 E R M))) j).snd)∧True)∧(((↑E.length:Int)=bif b8 E R M then(↑E.length:Int) else(0:Int))∧(AV.ps (b7 (↑E.length:Int) (g8 E R M))).len=(AV.ps (i9 (b8 E R M) (b7 (↑E.length:Int) (g8 E R M)))).len∧True)∧((0:Int)=bif b8 E R M then(0:Int) else(1:Int))∧True)):=by kernel_rfl
theorem v11 (E:List Ev) (R:List Int) (M:List (List Int)) (h:SzG E M):q11D E R M:=by
 rw[d58]
 cases hv:b8 E R M
 ·simp only[eq_self,true_and,and_true,z0o,imp_self,m5,m6,m9,g7,g9,PLoop.of,p9,AV.len,i5,z0s,j4,j7,j8,l7,l8,l9,i9,z0l,z2r]
  exact⟨⟨h.1,h.2⟩,by simp⟩
 ·obtain⟨hG,hN⟩:=a0f hv h
  obtain⟨hM,hR⟩:=a2m hv
  simp only[eq_self,true_and,and_true,z0o,imp_self,m5,m6,m9,g7,g9,PLoop.of,p9,AV.len,i5,z0s,j4,j7,j8,l7,l8,l9,i9,z0g,z2z]
  refine⟨⟨h.1,h.2⟩,by simp,?_⟩
  first | exact⟨by omega,hR,⟨h.1,h.2⟩,by omega⟩ | omega
theorem n11 (nm:List (Option AV)):CallOk Tryz.prog GL 11 (n6 EL gbT nm [PG] (w9 g8)):=a4r Tryz.func11 fo11 fun av pre rv h=>by
 unfold w9 at h; split at h <;> cases h
 exact⟨⟨rfl,fun t a e=>by cases e <;> exact z0h _ _⟩,fun hp=>⟨_,v11 _ _ _ (hp _ (.head _)),rfl,(m4 (n33 _) (m4 (a11 (n49 _)) t6)),(a3f b86 (a3f ii48 t7))⟩⟩
theorem fo13:o6 Tryz.prog 13:=⟨Tryz.f13,Tryz.func13,by kernel_rfl,by kernel_rfl⟩
theorem fo51:o6 Tryz.prog 51:=⟨Tryz.f51,Tryz.func51,by kernel_rfl,by kernel_rfl⟩
theorem ii51 {l:List (Nat × PLoop)} {t:List (Nat × (List Slot→List MBlk→List Gh))} {s:List Nat}:a2e (51,⟨Tryz.f51,l,t,s⟩):=⟨Tryz.func51,fo51⟩
def q13D (E:List Ev) (R:List Int) (M:List (List Int)):Prop:=n7 (({ g:=true,calls:=[a3k (nmT E R M),kRl 52 (a6k pgS p8) (nmT E R M)],inl:=b8j 51 Tryz.f51 }:Kit)).tab Tryz.f13 [a98 E R M] (grT E R M) ((a78 (b8 E R M) E.length (b7 E.length (p8 E R M))).post EL)
theorem d59 (E:List Ev) (R:List Int) (M:List (List Int)):q13D E R M=(∀(us:List Value),some tbl=some tbl∧E.length=E.length∧R.length=R.length∧M.length=M.length∧nE E∧nI R∧nR M∧(E.length≤(1099511627776:Nat)∧(M.length≤(8:Nat)→∀(r:List Int),List.Mem r M→r.length≤(1099511627776:Nat)))∧((!b8 E R M)=true→us=us∧(AV.ps (i9 (b8 E R M) (b7 (↑E.length:Int) (p8 E R M)))).len=(0:Nat)∧(((0:Int)=bif b8 E R M then(↑E.length:Int) else(0:Int))∧(AV.ps (i9 (b8 E R M) (b7 (↑E.length:Int) (p8 E R M)))).len=(0:Nat)∧True)∧((1:Int)=bif b8 E R M then(0:Int) else(1:Int))∧True)∧((!b8 E R M)=false→∀(us_1:List Value),E.length=E.length∧R.length=R.length∧M.length=M.length∧nE E∧nI R∧nR M∧((↑E.length:Int)≤(64:Int)∧R.length=E.length∧∀(j:Int),(0:Int)≤j→j < (↑E.length:Int)→inA R j < (↑E.length:Int))∧us_1=us_1∧us=us∧(AV.ps (b7 (↑E.length:Int) (p8 E R M))).len=(AV.ps (i9 (b8 E R M) (b7 (↑E.length:Int) (p8 E R M)))).len∧((∀(j:Nat),j < (AV.ps (i9 (b8 E R M) (b7 (↑E.length:Int) (p8 E R M)))).len→(b6 ((0:Int),(0:Int)) (b7 (↑E.length:Int) (p8 E R M)) j).fst=(b6 ((0:Int),(0:Int)) (i9 (b8 E R M) (b7 (↑E.length:Int) (p8 E R M))) j).fst)∧(∀(j:Nat),j < (AV.ps (i9 (b8 E R M) (b7 (↑E.length:Int) (p8 E R M)))).len→(b6 ((0:Int),(0:Int)) (b7 (↑E.length:Int) (p8 E R M)) j).snd=(b6
 ((0:Int),(0:Int)) (i9 (b8 E R M) (b7 (↑E.length:Int) (p8 E R M))) j).snd)∧True)∧(((↑E.length:Int)=bif b8 E R M then(↑E.length:Int) else(0:Int))∧(AV.ps (b7 (↑E.length:Int) (p8 E R M))).len=(AV.ps (i9 (b8 E R M) (b7 (↑E.length:Int) (p8 E R M)))).len∧True)∧((0:Int)=bif b8 E R M then(0:Int) else(1:Int))∧True)):=by kernel_rfl
theorem v13 (E:List Ev) (R:List Int) (M:List (List Int)) (h:SzG E M):q13D E R M:=by
 rw[d59]
 cases hv:b8 E R M
 ·simp only[eq_self,true_and,and_true,z0o,imp_self,m5,m6,m9,g7,g9,PLoop.of,p9,AV.len,i5,z0s,j4,j7,j8,l7,l8,l9,i9,z0l,z2r]
  exact⟨⟨h.1,h.2⟩,by simp⟩
 ·obtain⟨hG,hN⟩:=a0f hv h
  obtain⟨hM,hR⟩:=a2m hv
  simp only[eq_self,true_and,and_true,z0o,imp_self,m5,m6,m9,g7,g9,PLoop.of,p9,AV.len,i5,z0s,j4,j7,j8,l7,l8,l9,i9,z0g,z2z]
  refine⟨⟨h.1,h.2⟩,by simp,?_⟩
  first | exact⟨by omega,⟨hG.2.1.1,hG.2.1.2⟩⟩ | omega
theorem n13 (nm:List (Option AV)):CallOk Tryz.prog GL 13 (n6 EL gbT nm [PG] (w9 p8)):=a4r Tryz.func13 fo13 fun av pre rv h=>by
 unfold w9 at h; split at h <;> cases h
 exact⟨⟨rfl,fun t a e=>by cases e <;> exact z0h _ _⟩,fun hp=>⟨_,v13 _ _ _ (hp _ (.head _)),rfl,(m4 (n33 _) (m4 (a11 (n52 _)) t6)),(a3f b86 (a3f ii51 t7))⟩⟩
theorem fo31:o6 Tryz.prog 31:=⟨Tryz.f31,Tryz.func31,by kernel_rfl,by kernel_rfl⟩
theorem fo78:o6 Tryz.prog 78:=⟨Tryz.f78,Tryz.func78,by kernel_rfl,by kernel_rfl⟩
theorem ii78 {l:List (Nat × PLoop)} {t:List (Nat × (List Slot→List MBlk→List Gh))} {s:List Nat}:a2e (78,⟨Tryz.f78,l,t,s⟩):=⟨Tryz.func78,fo78⟩
def q31D (E:List Ev) (R:List Int) (M:List (List Int)):Prop:=n7 (({ g:=true,calls:=[a3k (nmT E R M),d3s,d3q (nmT E R M)],inl:=b8j 78 Tryz.f78 }:Kit)).tab Tryz.f31 [a98 E R M] (grT E R M) ((a78 (b8 E R M) E.length (b7 E.length (f8 E R M))).post EL)
theorem d5k (E:List Ev) (R:List Int) (M:List (List Int)):q31D E R M=(∀(us:List Value),some tbl=some tbl∧E.length=E.length∧R.length=R.length∧M.length=M.length∧nE E∧nI R∧nR M∧(E.length≤(1099511627776:Nat)∧(M.length≤(8:Nat)→∀(r:List Int),List.Mem r M→r.length≤(1099511627776:Nat)))∧((!b8 E R M)=true→us=us∧(AV.ps (i9 (b8 E R M) (b7 (↑E.length:Int) (f8 E R M)))).len=(0:Nat)∧(((0:Int)=bif b8 E R M then(↑E.length:Int) else(0:Int))∧(AV.ps (i9 (b8 E R M) (b7 (↑E.length:Int) (f8 E R M)))).len=(0:Nat)∧True)∧((1:Int)=bif b8 E R M then(0:Int) else(1:Int))∧True)∧((!b8 E R M)=false→∀(us_1:List Value),E.length=E.length∧R.length=R.length∧M.length=M.length∧nE E∧nI R∧nR M∧((↑E.length:Int)=(↑E.length:Int)∧(↑E.length:Int)≤(64:Int))∧us_1=us_1∧us=us∧(AV.ps (b7 (↑E.length:Int) (f8 E R M))).len=(AV.ps (i9 (b8 E R M) (b7 (↑E.length:Int) (f8 E R M)))).len∧((∀(j:Nat),j < (AV.ps (i9 (b8 E R M) (b7 (↑E.length:Int) (f8 E R M)))).len→(b6 ((0:Int),(0:Int)) (b7 (↑E.length:Int) (f8 E R M)) j).fst=(b6 ((0:Int),(0:Int)) (i9 (b8 E R M) (b7 (↑E.length:Int) (f8 E R M))) j).fst)∧(∀(j:Nat),j < (AV.ps (i9 (b8 E R M) (b7 (↑E.length:Int) (f8 E R M)))).len→(b6 ((0:Int),(0:Int)) (b7 (↑E.length:Int) (f8 E R M)) j).snd=(b6 ((0:Int),(0:Int)) (i9 (b8 E R M) (b7 (↑E.length :
 Int) (f8 E R M))) j).snd)∧True)∧(((↑E.length:Int)=bif b8 E R M then(↑E.length:Int) else(0:Int))∧(AV.ps (b7 (↑E.length:Int) (f8 E R M))).len=(AV.ps (i9 (b8 E R M) (b7 (↑E.length:Int) (f8 E R M)))).len∧True)∧((0:Int)=bif b8 E R M then(0:Int) else(1:Int))∧True)):=by kernel_rfl
theorem v31 (E:List Ev) (R:List Int) (M:List (List Int)) (h:SzG E M):q31D E R M:=by
 rw[d5k]
 cases hv:b8 E R M
 ·simp only[eq_self,true_and,and_true,z0o,imp_self,m5,m6,m9,g7,g9,PLoop.of,p9,AV.len,i5,z0s,j4,j7,j8,l7,l8,l9,i9,z0l,z2r]
  exact⟨⟨h.1,h.2⟩,by simp⟩
 ·obtain⟨hG,hN⟩:=a0f hv h
  obtain⟨hM,hR⟩:=a2m hv
  simp only[eq_self,true_and,and_true,z0o,imp_self,m5,m6,m9,g7,g9,PLoop.of,p9,AV.len,i5,z0s,j4,j7,j8,l7,l8,l9,i9,z0g,z2z]
  refine⟨⟨h.1,h.2⟩,by simp,?_⟩
  first | exact(by omega) | omega
theorem n31 (nm:List (Option AV)):CallOk Tryz.prog GL 31 (n6 EL gbT nm [PG] (w9 f8)):=a4r Tryz.func31 fo31 fun av pre rv h=>by
 unfold w9 at h; split at h <;> cases h
 exact⟨⟨rfl,fun t a e=>by cases e <;> exact z0h _ _⟩,fun hp=>⟨_,v31 _ _ _ (hp _ (.head _)),rfl,(m4 (n33 _) (m4 (a11 n57) (m4 (a11 (n56 _)) t6))),(a3f b86 (a3f ii78 t7))⟩⟩
def a34 (n:Nat) (a b c:Pf):List Pq:=b7 n (wF (d9 (b7 n a ++ b7 n b ++ b7 n c)) n)
def a7c (a b c:GF):SpG:=fun
 | [.ag [.es E,.is R,.rs M]]=>some ([SzG E M],a78 (b8 E R M) E.length (a34 E.length (a E R M) (b E R M) (c E R M)))
 | _=>none
def a0m (n:Nat) (a b c:Pf):List (Int × List Pq):=[((n:Int),b7 n a),((n:Int),b7 n b),((n:Int),b7 n c)]
theorem a7l (f:Pf) {n:Nat} (hN:n≤64):d8 (n:Int) (b7 n f)=true:=by rw[a5r]; exact(a7k f hN).1
theorem b70 (f:Pf) {n:Nat} (hN:n≤64):(b7 n f).length≤4096:=by
 rw[a5r]
 have h1:=a2j f n n
 have h3:n * n≤64 * 64:=z2v (by omega) (by omega)
 omega
theorem b61 {N:Int} {a b:List Pq} (ha:d8 N a=true) (hb:d8 N b=true):d8 N (a ++ b)=true:=by
 obtain⟨h1,h2,h3⟩:=z5.1 ha
 obtain⟨_,_,h4⟩:=z5.1 hb
 refine z5.2 ⟨h1,h2,fun p hp=>?_⟩
 rcases z0n.1 hp with hp | hp
 ·exact h3 p hp
 ·exact h4 p hp
theorem a71 (n:Nat) (a b c:Pf):o7 (a0m n a b c) (a0m n a b c).length=b7 n a ++ b7 n b ++ b7 n c:=by
 show [] ++ b7 n a ++ b7 n b ++ b7 n c=_
 rw[List.nil_append]
theorem b1t (a b c:Pf) {n:Nat} (hN:n≤64):((a0m n a b c).length≤64∧d8 (n:Int) (o7 (a0m n a b c) (a0m n a b c).length)=true)∧∀ j,j≤(a0m n a b c).length→(o7 (a0m n a b c) j).length≤1000000:=by
 have h1:=b70 a hN
 have h2:=b70 b hN
 have h3:=b70 c hN
 refine⟨⟨by simp[a0m],?_⟩,fun j hj=>?_⟩
 ·rw[a71]; exact b61 (b61 (a7l a hN) (a7l b hN)) (a7l c hN)
 ·have hj:j≤3:=hj
  match j,hj with
  | 0,_=>simp[o7]
  | 1,_=>show([] ++ b7 n a).length≤_; rw[List.nil_append]; omega
  | 2,_=>show([] ++ b7 n a ++ b7 n b).length≤_; rw[List.nil_append,z1a]; omega
  | 3,_=>show([] ++ b7 n a ++ b7 n b ++ b7 n c).length≤_; rw[List.nil_append,z1a,z1a]; omega
theorem b6u (n:Nat) (a b c:Pf):mkN (fun j=>(s6 (n:Int) (n:Int) (n:Int) j,mkN (fun i=>(s6 (fun j=>(b6 (0,0) (b7 n a) j).1) (fun j=>(b6 (0,0) (b7 n b) j).1) (fun j=>(b6 (0,0) (b7 n c) j).1) j i,s6 (fun j=>(b6 (0,0) (b7 n a) j).2) (fun j=>(b6 (0,0) (b7 n b) j).2) (fun j=>(b6 (0,0) (b7 n c) j).2) j i)) (s6 (b7 n a).length (b7 n b).length (b7 n c).length j))) 3=a0m n a b c:=by
 have e:∀ l:List Pq,mkN (fun i=>((b6 (0,0) l i).1,(b6 (0,0) l i).2)) l.length=l:=fun l=>m5 l
 show [_,_,_]=[_,_,_]
 simp only[s6,e]
theorem fo15:o6 Tryz.prog 15:=⟨Tryz.f15,Tryz.func15,by kernel_rfl,by kernel_rfl⟩
theorem fo53:o6 Tryz.prog 53:=⟨Tryz.f53,Tryz.func53,by kernel_rfl,by kernel_rfl⟩
theorem ii53 {l:List (Nat × PLoop)} {t:List (Nat × (List Slot→List MBlk→List Gh))} {s:List Nat}:a2e (53,⟨Tryz.f53,l,t,s⟩):=⟨Tryz.func53,fo53⟩
def q15D (E:List Ev) (R:List Int) (M:List (List Int)):Prop:=n7 (({ g:=true,calls:=[a3k (nmT E R M),kRl 55 (b4u pgE poG) (nmT E R M),d3s,d3q (nmT E R M),kRl 52 (a6k pgS p8) (nmT E R M),kClz (no 16 ++ [some (.rl (a0m E.length (poG E R M) (f8 E R M) (p8 E R M)))])],inl:=b8j 53 Tryz.f53 }:Kit)).tab Tryz.f15 [a98 E R M] (grT E R M) ((a78 (b8 E R M) E.length (a34 E.length (poG E R M) (f8 E R M) (p8 E R M))).post EL)
theorem d5a (E:List Ev) (R:List Int) (M:List (List Int)):q15D E R M=(∀(us:List Value),some tbl=some tbl∧E.length=E.length∧R.length=R.length∧M.length=M.length∧nE E∧nI R∧nR M∧(E.length≤(1099511627776:Nat)∧(M.length≤(8:Nat)→∀(r:List Int),List.Mem r M→r.length≤(1099511627776:Nat)))∧((!b8 E R M)=true→us=us∧(AV.ps (i9 (b8 E R M) (a34 E.length (poG E R M) (f8 E R M) (p8 E R M)))).len=(0:Nat)∧(((0:Int)=bif b8 E R M then(↑E.length:Int) else(0:Int))∧(AV.ps (i9 (b8 E R M) (a34 E.length (poG E R M) (f8 E R M) (p8 E R M)))).len=(0:Nat)∧True)∧((1:Int)=bif b8 E R M then(0:Int) else(1:Int))∧True)∧((!b8 E R M)=false→∀(us_1:List Value),E.length=E.length∧R.length=R.length∧M.length=M.length∧nE E∧nI R∧nR M∧(↑E.length:Int)≤(64:Int)∧E.length=E.length∧R.length=R.length∧M.length=M.length∧nE E∧nI R∧nR M∧((↑E.length:Int)=(↑E.length:Int)∧(↑E.length:Int)≤(64:Int))∧E.length=E.length∧R.length=R.length∧M.length=M.length∧nE E∧nI R∧nR M∧((↑E.length:Int)≤(64:Int)∧R.length=E.length∧∀(j:Int),(0:Int)≤j→j < (↑E.length:Int)→inA R j < (↑E.length:Int))∧(AV.ps (b7 (↑E.length:Int) (poG E R M))).len=(AV.ps (b7 (↑E.length:Int) (poG E R M))).len∧(AV.ps (b7 (↑E.length:Int) (f8 E R M))).len=(AV.ps (b7 (↑E.length:Int) (f8 E R M))).len∧(AV.ps (b7 (↑E.length:Int) (p8 E R M))).len=(AV.ps (b7 (↑E.length :
 Int) (p8 E R M))).len∧(3:Nat)=(3:Nat)∧mkN (fun(j:Nat)=>(s6 (↑E.length:Int) (↑E.length:Int) (↑E.length:Int) j,mkN (fun(i:Nat)=>(s6 (fun(j:Nat)=>(b6 ((0:Int),(0:Int)) (b7 (↑E.length:Int) (poG E R M)) j).fst) (fun(j:Nat)=>(b6 ((0:Int),(0:Int)) (b7 (↑E.length:Int) (f8 E R M)) j).fst) (fun(j:Nat)=>(b6 ((0:Int),(0:Int)) (b7 (↑E.length:Int) (p8 E R M)) j).fst) j i,s6 (fun(j:Nat)=>(b6 ((0:Int),(0:Int)) (b7 (↑E.length:Int) (poG E R M)) j).snd) (fun(j:Nat)=>(b6 ((0:Int),(0:Int)) (b7 (↑E.length:Int) (f8 E R M)) j).snd) (fun(j:Nat)=>(b6 ((0:Int),(0:Int)) (b7 (↑E.length:Int) (p8 E R M)) j).snd) j i)) (s6 (AV.ps (b7 (↑E.length:Int) (poG E R M))).len (AV.ps (b7 (↑E.length:Int) (f8 E R M))).len (AV.ps (b7 (↑E.length:Int) (p8 E R M))).len j))) (3:Nat)=a0m E.length (poG E R M) (f8 E R M) (p8 E R M)∧(((a0m E.length (poG E R M) (f8 E R M) (p8 E R M)).length≤(64:Nat)∧d8 (↑E.length:Int) (o7 (a0m E.length (poG E R M) (f8 E R M) (p8 E R M)) (a0m E.length (poG E R M) (f8 E R M) (p8 E R M)).length)=true)∧∀(j:Nat),j≤(a0m E.length (poG E R M) (f8 E R M) (p8 E R M)).length→(o7 (a0m E.length (poG E R M) (f8 E R M) (p8 E R M)) j).length≤(1000000:Nat))∧us_1=us_1∧us=us∧(AV.ps (b7 (↑E.length:Int) (wF (d9 (o7 (a0m E.length (poG E R M) (f8 E R M)
 (p8 E R M)) (a0m E.length (poG E R M) (f8 E R M) (p8 E R M)).length)) E.length))).len=(AV.ps (i9 (b8 E R M) (a34 E.length (poG E R M) (f8 E R M) (p8 E R M)))).len∧((∀(j:Nat),j < (AV.ps (i9 (b8 E R M) (a34 E.length (poG E R M) (f8 E R M) (p8 E R M)))).len→(b6 ((0:Int),(0:Int)) (b7 (↑E.length:Int) (wF (d9 (o7 (a0m E.length (poG E R M) (f8 E R M) (p8 E R M)) (a0m E.length (poG E R M) (f8 E R M) (p8 E R M)).length)) E.length)) j).fst=(b6 ((0:Int),(0:Int)) (i9 (b8 E R M) (a34 E.length (poG E R M) (f8 E R M) (p8 E R M))) j).fst)∧(∀(j:Nat),j < (AV.ps (i9 (b8 E R M) (a34 E.length (poG E R M) (f8 E R M) (p8 E R M)))).len→(b6 ((0:Int),(0:Int)) (b7 (↑E.length:Int) (wF (d9 (o7 (a0m E.length (poG E R M) (f8 E R M) (p8 E R M)) (a0m E.length (poG E R M) (f8 E R M) (p8 E R M)).length)) E.length)) j).snd=(b6 ((0:Int),(0:Int)) (i9 (b8 E R M) (a34 E.length (poG E R M) (f8 E R M) (p8 E R M))) j).snd)∧True)∧(((↑E.length:Int)=bif b8 E R M then(↑E.length:Int) else(0:Int))∧(AV.ps (b7 (↑E.length:Int) (wF (d9 (o7 (a0m E.length (poG E R M) (f8 E R M) (p8 E R M)) (a0m E.length (poG E R M) (f8 E R M) (p8 E R M)).length)) E.length))).len=(AV.ps (i9 (b8 E R M) (a34 E.length (poG E R M) (f8 E R M) (p8 E R M)))).len∧True)∧((0:Int)=bif b8 E R M then(0:Int) else(1:Int))∧True)):=by kernel_rfl
theorem v15 (E:List Ev) (R:List Int) (M:List (List Int)) (h:SzG E M):q15D E R M:=by
 rw[d5a]
 cases hv:b8 E R M
 ·simp only[eq_self,true_and,and_true,z0o,imp_self,m5,m6,m9,g7,g9,PLoop.of,p9,AV.len,i5,z0s,j4,j7,j8,l7,l8,l9,i9,z0l,z2r]
  exact⟨⟨h.1,h.2⟩,by simp⟩
 ·obtain⟨hG,hN⟩:=a0f hv h
  obtain⟨hM,hR⟩:=a2m hv
  simp only[eq_self,true_and,and_true,z0o,imp_self,m5,m6,m9,g7,g9,PLoop.of,p9,AV.len,i5,z0s,j4,j7,j8,l7,l8,l9,i9,z0g,z2z,b6u,a34,a71]
  refine⟨⟨h.1,h.2⟩,by simp,(by omega),(by omega),⟨by omega,⟨hG.2.1.1,hG.2.1.2⟩⟩,?_⟩
  have h5:=b1t (poG E R M) (f8 E R M) (p8 E R M) hN
  rw[a71] at h5
  exact h5
theorem n15 (nm:List (Option AV)):CallOk Tryz.prog GL 15 (n6 EL gbT nm [PG] (a7c poG f8 p8)):=a4r Tryz.func15 fo15 fun av pre rv h=>by
 unfold a7c at h; split at h <;> cases h
 exact⟨⟨rfl,fun t a e=>by cases e <;> exact z0h _ _⟩,fun hp=>⟨_,v15 _ _ _ (hp _ (.head _)),rfl,(m4 (n33 _) (m4 (a11 (n55 _)) (m4 (a11 n57) (m4 (a11 (n56 _)) (m4 (a11 (n52 _)) (m4 (a11 (n54 _)) t6)))))),(a3f b86 (a3f ii53 t7))⟩⟩
theorem fo17:o6 Tryz.prog 17:=⟨Tryz.f17,Tryz.func17,by kernel_rfl,by kernel_rfl⟩
theorem fo60:o6 Tryz.prog 60:=⟨Tryz.f60,Tryz.func60,by kernel_rfl,by kernel_rfl⟩
theorem ii60 {l:List (Nat × PLoop)} {t:List (Nat × (List Slot→List MBlk→List Gh))} {s:List Nat}:a2e (60,⟨Tryz.f60,l,t,s⟩):=⟨Tryz.func60,fo60⟩
def q17D (E:List Ev) (R:List Int) (M:List (List Int)):Prop:=n7 (({ g:=true,calls:=[a3k (nmT E R M),kRl 61 (b4u pgR rfG) (nmT E R M),kRl 62 (a6k pgM i4) (nmT E R M),kRl 49 (a6k pgF g8) (nmT E R M),kClz (no 14 ++ [some (.rl (a0m E.length (rfG E R M) (i4 E R M) (g8 E R M)))])],inl:=b8j 60 Tryz.f60 }:Kit)).tab Tryz.f17 [a98 E R M] (grT E R M) ((a78 (b8 E R M) E.length (a34 E.length (rfG E R M) (i4 E R M) (g8 E R M))).post EL)
theorem d5b (E:List Ev) (R:List Int) (M:List (List Int)):q17D E R M=(∀(us:List Value),some tbl=some tbl∧E.length=E.length∧R.length=R.length∧M.length=M.length∧nE E∧nI R∧nR M∧(E.length≤(1099511627776:Nat)∧(M.length≤(8:Nat)→∀(r:List Int),List.Mem r M→r.length≤(1099511627776:Nat)))∧((!b8 E R M)=true→us=us∧(AV.ps (i9 (b8 E R M) (a34 E.length (rfG E R M) (i4 E R M) (g8 E R M)))).len=(0:Nat)∧(((0:Int)=bif b8 E R M then(↑E.length:Int) else(0:Int))∧(AV.ps (i9 (b8 E R M) (a34 E.length (rfG E R M) (i4 E R M) (g8 E R M)))).len=(0:Nat)∧True)∧((1:Int)=bif b8 E R M then(0:Int) else(1:Int))∧True)∧((!b8 E R M)=false→∀(us_1:List Value),E.length=E.length∧R.length=R.length∧M.length=M.length∧nE E∧nI R∧nR M∧((↑E.length:Int)≤(64:Int)∧R.length=E.length)∧E.length=E.length∧R.length=R.length∧M.length=M.length∧nE E∧nI R∧nR M∧((↑E.length:Int)≤(64:Int)∧(E.length≤(1099511627776:Nat)∧(M.length≤(8:Nat)→∀(r:List Int),List.Mem r M→r.length≤(1099511627776:Nat)))∧M.length≤(8:Nat))∧E.length=E.length∧R.length=R.length∧M.length=M.length∧nE E∧nI R∧nR M∧((↑E.length:Int)≤(64:Int)∧R.length=E.length∧(E.length≤(1099511627776:Nat)∧(M.length≤(8:Nat)→∀(r:List Int),List.Mem r M→r.length≤(1099511627776:Nat)))∧M.length≤(8:Nat))∧(AV.ps (b7 (↑E.length:Int) (rfG E R M))).len=(AV.ps (b7 (↑E.length :
 Int) (rfG E R M))).len∧(AV.ps (b7 (↑E.length:Int) (i4 E R M))).len=(AV.ps (b7 (↑E.length:Int) (i4 E R M))).len∧(AV.ps (b7 (↑E.length:Int) (g8 E R M))).len=(AV.ps (b7 (↑E.length:Int) (g8 E R M))).len∧(3:Nat)=(3:Nat)∧mkN (fun(j:Nat)=>(s6 (↑E.length:Int) (↑E.length:Int) (↑E.length:Int) j,mkN (fun(i:Nat)=>(s6 (fun(j:Nat)=>(b6 ((0:Int),(0:Int)) (b7 (↑E.length:Int) (rfG E R M)) j).fst) (fun(j:Nat)=>(b6 ((0:Int),(0:Int)) (b7 (↑E.length:Int) (i4 E R M)) j).fst) (fun(j:Nat)=>(b6 ((0:Int),(0:Int)) (b7 (↑E.length:Int) (g8 E R M)) j).fst) j i,s6 (fun(j:Nat)=>(b6 ((0:Int),(0:Int)) (b7 (↑E.length:Int) (rfG E R M)) j).snd) (fun(j:Nat)=>(b6 ((0:Int),(0:Int)) (b7 (↑E.length:Int) (i4 E R M)) j).snd) (fun(j:Nat)=>(b6 ((0:Int),(0:Int)) (b7 (↑E.length:Int) (g8 E R M)) j).snd) j i)) (s6 (AV.ps (b7 (↑E.length:Int) (rfG E R M))).len (AV.ps (b7 (↑E.length:Int) (i4 E R M))).len (AV.ps (b7 (↑E.length:Int) (g8 E R M))).len j))) (3:Nat)=a0m E.length (rfG E R M) (i4 E R M) (g8 E R M)∧(((a0m E.length (rfG E R M) (i4 E R M) (g8 E R M)).length≤(64:Nat)∧d8 (↑E.length:Int) (o7 (a0m E.length (rfG E R M) (i4 E R M) (g8 E R M)) (a0m E.length (rfG E R M) (i4 E R M) (g8 E R M)).length)=true)∧∀(j:Nat),j≤(a0m E.length (rfG E R M) (i4 E R M) (g8 E R M)).length
 → (o7 (a0m E.length (rfG E R M) (i4 E R M) (g8 E R M)) j).length≤(1000000:Nat))∧us_1=us_1∧us=us∧(AV.ps (b7 (↑E.length:Int) (wF (d9 (o7 (a0m E.length (rfG E R M) (i4 E R M) (g8 E R M)) (a0m E.length (rfG E R M) (i4 E R M) (g8 E R M)).length)) E.length))).len=(AV.ps (i9 (b8 E R M) (a34 E.length (rfG E R M) (i4 E R M) (g8 E R M)))).len∧((∀(j:Nat),j < (AV.ps (i9 (b8 E R M) (a34 E.length (rfG E R M) (i4 E R M) (g8 E R M)))).len→(b6 ((0:Int),(0:Int)) (b7 (↑E.length:Int) (wF (d9 (o7 (a0m E.length (rfG E R M) (i4 E R M) (g8 E R M)) (a0m E.length (rfG E R M) (i4 E R M) (g8 E R M)).length)) E.length)) j).fst=(b6 ((0:Int),(0:Int)) (i9 (b8 E R M) (a34 E.length (rfG E R M) (i4 E R M) (g8 E R M))) j).fst)∧(∀(j:Nat),j < (AV.ps (i9 (b8 E R M) (a34 E.length (rfG E R M) (i4 E R M) (g8 E R M)))).len→(b6 ((0:Int),(0:Int)) (b7 (↑E.length:Int) (wF (d9 (o7 (a0m E.length (rfG E R M) (i4 E R M) (g8 E R M)) (a0m E.length (rfG E R M) (i4 E R M) (g8 E R M)).length)) E.length)) j).snd=(b6 ((0:Int),(0:Int)) (i9 (b8 E R M) (a34 E.length (rfG E R M) (i4 E R M) (g8 E R M))) j).snd)∧True)∧(((↑E.length:Int)=bif b8 E R M then(↑E.length:Int) else(0:Int))∧(AV.ps (b7 (↑E.length:Int) (wF (d9 (o7 (a0m E.length (rfG E R M) (i4 E R M) (g8 E R M)) (a0m E.length (rfG E R M) (i4 E R M) (g8 E R
 M)).length)) E.length))).len=(AV.ps (i9 (b8 E R M) (a34 E.length (rfG E R M) (i4 E R M) (g8 E R M)))).len∧True)∧((0:Int)=bif b8 E R M then(0:Int) else(1:Int))∧True)):=by kernel_rfl
theorem v17 (E:List Ev) (R:List Int) (M:List (List Int)) (h:SzG E M):q17D E R M:=by
 rw[d5b]
 cases hv:b8 E R M
 ·simp only[eq_self,true_and,and_true,z0o,imp_self,m5,m6,m9,g7,g9,PLoop.of,p9,AV.len,i5,z0s,j4,j7,j8,l7,l8,l9,i9,z0l,z2r]
  exact⟨⟨h.1,h.2⟩,by simp⟩
 ·obtain⟨hG,hN⟩:=a0f hv h
  obtain⟨hM,hR⟩:=a2m hv
  simp only[eq_self,true_and,and_true,z0o,imp_self,m5,m6,m9,g7,g9,PLoop.of,p9,AV.len,i5,z0s,j4,j7,j8,l7,l8,l9,i9,z0g,z2z,b6u,a34,a71]
  refine⟨⟨h.1,h.2⟩,by simp,⟨by omega,hR⟩,⟨by omega,⟨h.1,h.2⟩,by omega⟩,⟨by omega,hR,⟨h.1,h.2⟩,by omega⟩,?_⟩
  have h5:=b1t (rfG E R M) (i4 E R M) (g8 E R M) hN
  rw[a71] at h5
  exact h5
theorem n17 (nm:List (Option AV)):CallOk Tryz.prog GL 17 (n6 EL gbT nm [PG] (a7c rfG i4 g8)):=a4r Tryz.func17 fo17 fun av pre rv h=>by
 unfold a7c at h; split at h <;> cases h
 exact⟨⟨rfl,fun t a e=>by cases e <;> exact z0h _ _⟩,fun hp=>⟨_,v17 _ _ _ (hp _ (.head _)),rfl,(m4 (n33 _) (m4 (a11 (n61 _)) (m4 (a11 (n62 _)) (m4 (a11 (n49 _)) (m4 (a11 (n54 _)) t6))))),(a3f b86 (a3f ii60 t7))⟩⟩
def o5 (a b:Int):Int:=bif decide (a < b) then -1 else bif decide (a > b) then 1 else 0
def orF:List Int→Int
 | []=>0
 | x :: r=>bif x != 0 then x else orF r
def a56 (a b:Ev):Int:=orF [o5 a.ag b.ag,o5 a.ix b.ix,o5 a.k b.k,o5 a.ob b.ob,o5 a.mu b.mu,o5 a.en b.en,o5 a.od b.od,o5 a.rd b.rd,o5 a.wr b.wr]
def z7 {α:Type} (f:α→α→Int):List α→List α→Int
 | [],[]=>0
 | [],_ :: _=>-1
 | _ :: _,[]=>1
 | x :: r,y :: s=>bif f x y != 0 then f x y else z7 f r s
def a0e (a:List (List Int)) (x:Nat):List Int:=b6 [] a x
def a1u (f:Nat→Int):Nat→Int
 | 0=>0
 | n + 1=>bif a1u f n != 0 then a1u f n else f n
def b2p (a b:List (List Int)):Int:=a1u (fun x=>z7 o5 (a0e a x) (a0e b x)) (if b.length > a.length then b.length else a.length)
theorem c5r {f:Nat→Int} {n j:Nat} (h0:a1u f j=0) (hf:f j≠0) (hj:j < n):a1u f n=f j:=by
 have h1:a1u f (j + 1)=f j:=by
  have:(a1u f j != 0)=false:=by simp[h0]
  rw[a1u,this]; rfl
 have key:∀ d,a1u f (j + 1 + d)=f j:=by
  intro d
  induction d with
  | zero=>exact h1
  | succ d ih =>
   rw[← z3d,a1u,ih]
   have:(f j != 0)=true:=by simpa using hf
   rw[this]; rfl
 have:=key (n - (j + 1))
 rwa [show j + 1 + (n - (j + 1))=n by omega] at this
theorem c0f {f:Nat→Int} {j:Nat} (h0:a1u f j=0) (hf:f j=0):a1u f (j + 1)=0:=by
 have:(a1u f j != 0)=false:=by simp[h0]
 rw[a1u,this]; exact hf
theorem c9p {l:List Int}:∀ {j:Nat},(∀ q,q < j→b6 0 l q=0)→j < l.length→b6 0 l j≠0→orF l=b6 0 l j:=by
 induction l with
 | nil=>intro j _ h; simp at h
 | cons x r ih =>
  intro j h1 h2 h3
  cases j with
  | zero =>
   have:(x != 0)=true:=by simpa [b6] using h3
   rw[orF,this]; rfl
  | succ j =>
   have hx:x=0:=h1 0 (by omega)
   subst hx
   have:=ih (j:=j) (fun q hq=>h1 (q + 1) (by omega)) (by simpa using h2) h3
   simpa [orF,b6] using this
theorem c6o {l:List Int}:(∀ q,q < l.length→b6 0 l q=0)→orF l=0:=by
 induction l with
 | nil=>intro _; rfl
 | cons x r ih =>
  intro h
  have hx:x=0:=h 0 (by simp)
  subst hx
  simpa [orF] using ih fun q hq=>h (q + 1) (by simpa using hq)
section
variable {α:Type} {f:α→α→Int} {d:α}
theorem b7v:∀ {l m:List α} {j:Nat},(∀ q,q < j→f (b6 d l q) (b6 d m q)=0)→j < l.length→j < m.length→f (b6 d l j) (b6 d m j)≠0→z7 f l m=f (b6 d l j) (b6 d m j):=by
 intro l
 induction l with
 | nil=>intro m j _ h; simp at h
 | cons x r ih =>
  intro m j h1 h2 h3 h4
  cases m with
  | nil=>simp at h3
  | cons y s =>
   cases j with
   | zero =>
    have:(f x y != 0)=true:=by simpa [b6] using h4
    rw[z7,this]; rfl
   | succ j =>
    have hx:f x y=0:=h1 0 (by omega)
    have:=ih (m:=s) (j:=j) (fun q hq=>h1 (q + 1) (by omega)) (by simpa using h2) (by simpa using h3) h4
    rw[z7,hx]
    simpa [b6] using this
theorem a8v:∀ {l m:List α},(∀ q,q < l.length→q < m.length→f (b6 d l q) (b6 d m q)=0)→z7 f l m=bif decide (m.length < l.length) then 1 else bif decide (l.length < m.length) then -1 else 0:=by
 intro l
 induction l with
 | nil =>
  intro m _
  cases m <;> simp[z7]
 | cons x r ih =>
  intro m h
  cases m with
  | nil=>simp[z7]
  | cons y s =>
   have hx:f x y=0:=h 0 (by simp) (by simp)
   have:=ih (m:=s) fun q h1 h2=>h (q + 1) (by simpa using h1) (by simpa using h2)
   rw[z7,hx]
   simpa using this
end
def c1e:SpP:=fun | [.lf (.i a),.lf (.i b)]=>some ([],plI (o5 a b)) | _=>none
def c98 (n:Nat):Nat × (List MBlk→List SV→Option AR):=(n,n6 EL none [] [.lf .i,.lf .i] c1e)
def sOr:SpP:=fun | [.lf (.is l)]=>some ([L40 l.length],plI (orF l)) | _=>none
def kOr (nm:List (Option AV)):Nat × (List MBlk→List SV→Option AR):=(96,n6 EL none nm [.lf .is] sOr)
def d4d:SpP:=fun | [.lf (.ev a),.lf (.ev b)]=>some ([],plI (a56 a b)) | _=>none
def kCmE:Nat × (List MBlk→List SV→Option AR):=(98,n6 EL none [] [.lf .ev,.lf .ev] d4d)
def d4f:SpP:=fun | [.lf (.is l),.lf (.is m)]=>some ([L40 l.length],plI (z7 o5 l m)) | _=>none
def kCmL (nm:List (Option AV)):Nat × (List MBlk→List SV→Option AR):=(99,n6 EL none nm [.lf .is,.lf .is] d4f)
def d4e:SpP:=fun | [.lf (.es l),.lf (.es m),.fc 98]=>some ([L40 l.length],plI (z7 a56 l m)) | _=>none
def kCmF (nm:List (Option AV)):Nat × (List MBlk→List SV→Option AR):=(97,n6 EL none nm [.lf .es,.lf .es,.fc 98] d4e)
def SzR (M:List (List Int)):Prop:=∀ r∈M,L40 r.length
def d4g:SpP:=fun | [.lf (.rs a),.lf (.rs b)]=>some ([(L40 a.length∧L40 b.length)∧SzR a],plI (b2p a b)) | _=>none
def kCmM (nm:List (Option AV)):Nat × (List MBlk→List SV→Option AR):=(92,n6 EL none nm [.lf .rs,.lf .rs] d4g)
def a1j (_:Int):Bool:=false
def lOr (l:List Int) (t:Nat):LAnn:=p9 l.length t (fun j=>∀ q,q < j→b6 0 l q=0) (fun _=>[]) []
def b8d {α:Type} (f:α→α→Int) (d:α) (l m:List α) (t:Nat):LAnn:=p9 l.length t (fun j=>j≤m.length∧∀ q,q < j→f (b6 d l q) (b6 d m q)=0) (fun _=>[]) []
def b4p (a b:List (List Int)) (t:Nat):LAnn:=p9 (if b.length > a.length then b.length else a.length) t (fun j=>a1u (fun x=>z7 o5 (a0e a x) (a0e b x)) j=0) (fun _=>[]) []
end Go.Proofs.YtaeeaniofljmnaaGreatDoor

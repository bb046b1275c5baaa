/-
  A part of the proof (J40a).
-/
import Derived.Test.YtaeeaniofljmnaaGreatDoorJ35a
namespace Go.Proofs.YtaeeaniofljmnaaGreatDoor
set_option linter.unusedSimpArgs false
set_option linter.unusedVariables false
open Go Go.Proofs.YtaeeaniofljmnaaGreatDoor.Sx
set_option maxRecDepth 100000
theorem a1a {E:List Ev} {R:List Int} {M:List (List Int)} (hv:b8 E R M=true):M.length≤8∧R.length=E.length:=by
 simp only[b8,z0d,z1i] at hv
 exact⟨hv.1.1.1.2,hv.1.1.1.1.2⟩
theorem fo47:p8 Tryz.prog 47:=⟨Tryz.f47,Tryz.func47,by kernel_rfl,by kernel_rfl⟩
theorem c1q {l:List (Nat × PLoop)} {t:List (Nat × (List Slot→List MBlk→List Gh))} {s:List Nat}:a26 (47,⟨Tryz.f47,l,t,s⟩):=⟨Tryz.func47,fo47⟩
theorem fo25:p8 Tryz.prog 25:=⟨Tryz.f25,Tryz.func25,by kernel_rfl,by kernel_rfl⟩
theorem fo75:p8 Tryz.prog 75:=⟨Tryz.f75,Tryz.func75,by kernel_rfl,by kernel_rfl⟩
theorem ii75 {l:List (Nat × PLoop)} {t:List (Nat × (List Slot→List MBlk→List Gh))} {s:List Nat}:a26 (75,⟨Tryz.f75,l,t,s⟩):=⟨Tryz.func75,fo75⟩
def q25D (E:List Ev) (R:List Int) (M:List (List Int)):Prop:=p7 (({ g:=true,calls:=[a52 (nmT E R M),kRl 55 (b5t pgE poG) (nmT E R M)],inl:=c1x 75 Tryz.f75 }:Kit)).tab Tryz.f25 [b24 E R M] (grT E R M) ((b4r (b8 E R M) E.length (b7 E.length (poG E R M))).post EL)
theorem d7f (E:List Ev) (R:List Int) (M:List (List Int)):q25D E R M=(
 let a:=b7 (↑E.length:Int) (poG E R M)
 let b:=AV.ps (l8 (b8 E R M) a)
 let c:=(0:Int)
 let d:=(↑E.length:Int)
 ∀(us:List Value),some tbl=some tbl∧E.length=E.length∧R.length=R.length∧M.length=M.length∧nE E∧nI R∧nR M∧(E.length≤(1099511627776:Nat)∧(M.length≤(8:Nat)→∀(r:List Int),List.Mem r M→r.length≤(1099511627776:Nat)))∧((!b8 E R M)=true→us=us∧b.len=(0:Nat)∧((c=bif b8 E R M then d else c)∧b.len=(0:Nat)∧True)∧((1:Int)=bif b8 E R M then c else(1:Int))∧True)∧((!b8 E R M)=false→∀(us_1:List Value),E.length=E.length∧R.length=R.length∧M.length=M.length∧nE E∧nI R∧nR M∧d≤(64:Int)∧us_1=us_1∧us=us∧(AV.ps a).len=b.len∧((∀(j:Nat),j < b.len→(b6 (c,c) a j).fst=(b6 (c,c) (l8 (b8 E R M) a) j).fst)∧(∀(j:Nat),j < b.len→(b6 (c,c) a j).snd=(b6 (c,c) (l8 (b8 E R M) a) j).snd)∧True)∧((d=bif b8 E R M then d else c)∧(AV.ps a).len=b.len∧True)∧(c=bif b8 E R M then c else(1:Int))∧True)):=by kernel_rfl
theorem v25 (E:List Ev) (R:List Int) (M:List (List Int)) (h:SzG E M):q25D E R M:=by
 rw[d7f]
 cases hv:b8 E R M
 ·simp only[eq_self,true_and,and_true,z0n,imp_self,l9,m6,n5,g7,g8,PLoop.of,q6,AV.len,g9,z0s,i9,j4,j5,l5,l6,l7,l8,z0l,z3c]
  exact⟨⟨h.1,h.2⟩,by simp⟩
 ·obtain⟨hG,hN⟩:=a06 hv h
  obtain⟨hM,hR⟩:=a1a hv
  simp only[eq_self,true_and,and_true,z0n,imp_self,l9,m6,n5,g7,g8,PLoop.of,q6,AV.len,g9,z0s,i9,j4,j5,l5,l6,l7,l8,z0f,z2p]
  refine⟨⟨h.1,h.2⟩,by simp,?_⟩
  first | exact(by omega) | omega
theorem n25 (nm:List (Option AV)):CallOk Tryz.prog GL 25 (o5 EL gbT nm [PG] (a59 poG)):=a5j Tryz.func25 fo25 fun av pre rv h=>by
 unfold a59 at h; split at h <;> cases h
 exact⟨⟨rfl,fun t a e=>by cases e <;> exact z0h _ _⟩,fun hp=>⟨_,v25 _ _ _ (hp _ (.head _)),rfl,(m9 (n33 _) (m9 (a1o (n55 _)) t9)),(a3s c1q (a3s ii75 u4))⟩⟩
theorem fo27:p8 Tryz.prog 27:=⟨Tryz.f27,Tryz.func27,by kernel_rfl,by kernel_rfl⟩
theorem fo76:p8 Tryz.prog 76:=⟨Tryz.f76,Tryz.func76,by kernel_rfl,by kernel_rfl⟩
theorem ii76 {l:List (Nat × PLoop)} {t:List (Nat × (List Slot→List MBlk→List Gh))} {s:List Nat}:a26 (76,⟨Tryz.f76,l,t,s⟩):=⟨Tryz.func76,fo76⟩
def q27D (E:List Ev) (R:List Int) (M:List (List Int)):Prop:=p7 (({ g:=true,calls:=[a52 (nmT E R M),kRl 61 (b5t pgR rfG) (nmT E R M)],inl:=c1x 76 Tryz.f76 }:Kit)).tab Tryz.f27 [b24 E R M] (grT E R M) ((b4r (b8 E R M) E.length (b7 E.length (rfG E R M))).post EL)
theorem d7g (E:List Ev) (R:List Int) (M:List (List Int)):q27D E R M=(
 let a:=b7 (↑E.length:Int) (rfG E R M)
 let b:=AV.ps (l8 (b8 E R M) a)
 let c:=(0:Int)
 let d:=(↑E.length:Int)
 ∀(us:List Value),some tbl=some tbl∧E.length=E.length∧R.length=R.length∧M.length=M.length∧nE E∧nI R∧nR M∧(E.length≤(1099511627776:Nat)∧(M.length≤(8:Nat)→∀(r:List Int),List.Mem r M→r.length≤(1099511627776:Nat)))∧((!b8 E R M)=true→us=us∧b.len=(0:Nat)∧((c=bif b8 E R M then d else c)∧b.len=(0:Nat)∧True)∧((1:Int)=bif b8 E R M then c else(1:Int))∧True)∧((!b8 E R M)=false→∀(us_1:List Value),E.length=E.length∧R.length=R.length∧M.length=M.length∧nE E∧nI R∧nR M∧(d≤(64:Int)∧R.length=E.length)∧us_1=us_1∧us=us∧(AV.ps a).len=b.len∧((∀(j:Nat),j < b.len→(b6 (c,c) a j).fst=(b6 (c,c) (l8 (b8 E R M) a) j).fst)∧(∀(j:Nat),j < b.len→(b6 (c,c) a j).snd=(b6 (c,c) (l8 (b8 E R M) a) j).snd)∧True)∧((d=bif b8 E R M then d else c)∧(AV.ps a).len=b.len∧True)∧(c=bif b8 E R M then c else(1:Int))∧True)):=by kernel_rfl
theorem v27 (E:List Ev) (R:List Int) (M:List (List Int)) (h:SzG E M):q27D E R M:=by
 rw[d7g]
 cases hv:b8 E R M
 ·simp only[eq_self,true_and,and_true,z0n,imp_self,l9,m6,n5,g7,g8,PLoop.of,q6,AV.len,g9,z0s,i9,j4,j5,l5,l6,l7,l8,z0l,z3c]
  exact⟨⟨h.1,h.2⟩,by simp⟩
 ·obtain⟨hG,hN⟩:=a06 hv h
  obtain⟨hM,hR⟩:=a1a hv
  simp only[eq_self,true_and,and_true,z0n,imp_self,l9,m6,n5,g7,g8,PLoop.of,q6,AV.len,g9,z0s,i9,j4,j5,l5,l6,l7,l8,z0f,z2p]
  refine⟨⟨h.1,h.2⟩,by simp,?_⟩
  first | exact⟨by omega,hR⟩ | omega
theorem n27 (nm:List (Option AV)):CallOk Tryz.prog GL 27 (o5 EL gbT nm [PG] (a59 rfG)):=a5j Tryz.func27 fo27 fun av pre rv h=>by
 unfold a59 at h; split at h <;> cases h
 exact⟨⟨rfl,fun t a e=>by cases e <;> exact z0h _ _⟩,fun hp=>⟨_,v27 _ _ _ (hp _ (.head _)),rfl,(m9 (n33 _) (m9 (a1o (n61 _)) t9)),(a3s c1q (a3s ii76 u4))⟩⟩
theorem fo29:p8 Tryz.prog 29:=⟨Tryz.f29,Tryz.func29,by kernel_rfl,by kernel_rfl⟩
theorem fo77:p8 Tryz.prog 77:=⟨Tryz.f77,Tryz.func77,by kernel_rfl,by kernel_rfl⟩
theorem ii77 {l:List (Nat × PLoop)} {t:List (Nat × (List Slot→List MBlk→List Gh))} {s:List Nat}:a26 (77,⟨Tryz.f77,l,t,s⟩):=⟨Tryz.func77,fo77⟩
def q29D (E:List Ev) (R:List Int) (M:List (List Int)):Prop:=p7 (({ g:=true,calls:=[a52 (nmT E R M),kRl 62 (a78 pgM j7) (nmT E R M)],inl:=c1x 77 Tryz.f77 }:Kit)).tab Tryz.f29 [b24 E R M] (grT E R M) ((b4r (b8 E R M) E.length (b7 E.length (j7 E R M))).post EL)
theorem d7h (E:List Ev) (R:List Int) (M:List (List Int)):q29D E R M=(
 let a:=b7 (↑E.length:Int) (j7 E R M)
 let b:=AV.ps (l8 (b8 E R M) a)
 let c:=(0:Int)
 let d:=(1099511627776:Nat)
 let e:=(↑E.length:Int)
 ∀(us:List Value),some tbl=some tbl∧E.length=E.length∧R.length=R.length∧M.length=M.length∧nE E∧nI R∧nR M∧(E.length≤d∧(M.length≤(8:Nat)→∀(r:List Int),List.Mem r M→r.length≤d))∧((!b8 E R M)=true→us=us∧b.len=(0:Nat)∧((c=bif b8 E R M then e else c)∧b.len=(0:Nat)∧True)∧((1:Int)=bif b8 E R M then c else(1:Int))∧True)∧((!b8 E R M)=false→∀(us_1:List Value),E.length=E.length∧R.length=R.length∧M.length=M.length∧nE E∧nI R∧nR M∧(e≤(64:Int)∧(E.length≤d∧(M.length≤(8:Nat)→∀(r:List Int),List.Mem r M→r.length≤d))∧M.length≤(8:Nat))∧us_1=us_1∧us=us∧(AV.ps a).len=b.len∧((∀(j:Nat),j < b.len→(b6 (c,c) a j).fst=(b6 (c,c) (l8 (b8 E R M) a) j).fst)∧(∀(j:Nat),j < b.len→(b6 (c,c) a j).snd=(b6 (c,c) (l8 (b8 E R M) a) j).snd)∧True)∧((e=bif b8 E R M then e else c)∧(AV.ps a).len=b.len∧True)∧(c=bif b8 E R M then c else(1:Int))∧True)):=by kernel_rfl
theorem v29 (E:List Ev) (R:List Int) (M:List (List Int)) (h:SzG E M):q29D E R M:=by
 rw[d7h]
 cases hv:b8 E R M
 ·simp only[eq_self,true_and,and_true,z0n,imp_self,l9,m6,n5,g7,g8,PLoop.of,q6,AV.len,g9,z0s,i9,j4,j5,l5,l6,l7,l8,z0l,z3c]
  exact⟨⟨h.1,h.2⟩,by simp⟩
 ·obtain⟨hG,hN⟩:=a06 hv h
  obtain⟨hM,hR⟩:=a1a hv
  simp only[eq_self,true_and,and_true,z0n,imp_self,l9,m6,n5,g7,g8,PLoop.of,q6,AV.len,g9,z0s,i9,j4,j5,l5,l6,l7,l8,z0f,z2p]
  refine⟨⟨h.1,h.2⟩,by simp,?_⟩
  first | exact⟨by omega,⟨h.1,h.2⟩,by omega⟩ | omega
theorem n29 (nm:List (Option AV)):CallOk Tryz.prog GL 29 (o5 EL gbT nm [PG] (a59 j7)):=a5j Tryz.func29 fo29 fun av pre rv h=>by
 unfold a59 at h; split at h <;> cases h
 exact⟨⟨rfl,fun t a e=>by cases e <;> exact z0h _ _⟩,fun hp=>⟨_,v29 _ _ _ (hp _ (.head _)),rfl,(m9 (n33 _) (m9 (a1o (n62 _)) t9)),(a3s c1q (a3s ii77 u4))⟩⟩
theorem fo11:p8 Tryz.prog 11:=⟨Tryz.f11,Tryz.func11,by kernel_rfl,by kernel_rfl⟩
theorem fo48:p8 Tryz.prog 48:=⟨Tryz.f48,Tryz.func48,by kernel_rfl,by kernel_rfl⟩
theorem ii48 {l:List (Nat × PLoop)} {t:List (Nat × (List Slot→List MBlk→List Gh))} {s:List Nat}:a26 (48,⟨Tryz.f48,l,t,s⟩):=⟨Tryz.func48,fo48⟩
def q11D (E:List Ev) (R:List Int) (M:List (List Int)):Prop:=p7 (({ g:=true,calls:=[a52 (nmT E R M),kRl 49 (a78 pgF j6) (nmT E R M)],inl:=c1x 48 Tryz.f48 }:Kit)).tab Tryz.f11 [b24 E R M] (grT E R M) ((b4r (b8 E R M) E.length (b7 E.length (j6 E R M))).post EL)
theorem d76 (E:List Ev) (R:List Int) (M:List (List Int)):q11D E R M=(
 let a:=b7 (↑E.length:Int) (j6 E R M)
 let b:=AV.ps (l8 (b8 E R M) a)
 let c:=(0:Int)
 let d:=(1099511627776:Nat)
 let e:=(↑E.length:Int)
 ∀(us:List Value),some tbl=some tbl∧E.length=E.length∧R.length=R.length∧M.length=M.length∧nE E∧nI R∧nR M∧(E.length≤d∧(M.length≤(8:Nat)→∀(r:List Int),List.Mem r M→r.length≤d))∧((!b8 E R M)=true→us=us∧b.len=(0:Nat)∧((c=bif b8 E R M then e else c)∧b.len=(0:Nat)∧True)∧((1:Int)=bif b8 E R M then c else(1:Int))∧True)∧((!b8 E R M)=false→∀(us_1:List Value),E.length=E.length∧R.length=R.length∧M.length=M.length∧nE E∧nI R∧nR M∧(e≤(64:Int)∧R.length=E.length∧(E.length≤d∧(M.length≤(8:Nat)→∀(r:List Int),List.Mem r M→r.length≤d))∧M.length≤(8:Nat))∧us_1=us_1∧us=us∧(AV.ps a).len=b.len∧((∀(j:Nat),j < b.len→(b6 (c,c) a j).fst=(b6 (c,c) (l8 (b8 E R M) a) j).fst)∧(∀(j:Nat),j < b.len→(b6 (c,c) a j).snd=(b6 (c,c) (l8 (b8 E R M) a) j).snd)∧True)∧((e=bif b8 E R M then e else c)∧(AV.ps a).len=b.len∧True)∧(c=bif b8 E R M then c else(1:Int))∧True)):=by kernel_rfl
theorem v11 (E:List Ev) (R:List Int) (M:List (List Int)) (h:SzG E M):q11D E R M:=by
 rw[d76]
 cases hv:b8 E R M
 ·simp only[eq_self,true_and,and_true,z0n,imp_self,l9,m6,n5,g7,g8,PLoop.of,q6,AV.len,g9,z0s,i9,j4,j5,l5,l6,l7,l8,z0l,z3c]
  exact⟨⟨h.1,h.2⟩,by simp⟩
 ·obtain⟨hG,hN⟩:=a06 hv h
  obtain⟨hM,hR⟩:=a1a hv
  simp only[eq_self,true_and,and_true,z0n,imp_self,l9,m6,n5,g7,g8,PLoop.of,q6,AV.len,g9,z0s,i9,j4,j5,l5,l6,l7,l8,z0f,z2p]
  refine⟨⟨h.1,h.2⟩,by simp,?_⟩
  first | exact⟨by omega,hR,⟨h.1,h.2⟩,by omega⟩ | omega
theorem n11 (nm:List (Option AV)):CallOk Tryz.prog GL 11 (o5 EL gbT nm [PG] (a59 j6)):=a5j Tryz.func11 fo11 fun av pre rv h=>by
 unfold a59 at h; split at h <;> cases h
 exact⟨⟨rfl,fun t a e=>by cases e <;> exact z0h _ _⟩,fun hp=>⟨_,v11 _ _ _ (hp _ (.head _)),rfl,(m9 (n33 _) (m9 (a1o (n49 _)) t9)),(a3s c1q (a3s ii48 u4))⟩⟩
theorem fo13:p8 Tryz.prog 13:=⟨Tryz.f13,Tryz.func13,by kernel_rfl,by kernel_rfl⟩
theorem fo51:p8 Tryz.prog 51:=⟨Tryz.f51,Tryz.func51,by kernel_rfl,by kernel_rfl⟩
theorem ii51 {l:List (Nat × PLoop)} {t:List (Nat × (List Slot→List MBlk→List Gh))} {s:List Nat}:a26 (51,⟨Tryz.f51,l,t,s⟩):=⟨Tryz.func51,fo51⟩
def q13D (E:List Ev) (R:List Int) (M:List (List Int)):Prop:=p7 (({ g:=true,calls:=[a52 (nmT E R M),kRl 52 (a78 pgS y9) (nmT E R M)],inl:=c1x 51 Tryz.f51 }:Kit)).tab Tryz.f13 [b24 E R M] (grT E R M) ((b4r (b8 E R M) E.length (b7 E.length (y9 E R M))).post EL)
theorem d77 (E:List Ev) (R:List Int) (M:List (List Int)):q13D E R M=(
 let a:=b7 (↑E.length:Int) (y9 E R M)
 let b:=AV.ps (l8 (b8 E R M) a)
 let c:=(↑E.length:Int)
 let d:=(0:Int)
 ∀(us:List Value),some tbl=some tbl∧E.length=E.length∧R.length=R.length∧M.length=M.length∧nE E∧nI R∧nR M∧(E.length≤(1099511627776:Nat)∧(M.length≤(8:Nat)→∀(r:List Int),List.Mem r M→r.length≤(1099511627776:Nat)))∧((!b8 E R M)=true→us=us∧b.len=(0:Nat)∧((d=bif b8 E R M then c else d)∧b.len=(0:Nat)∧True)∧((1:Int)=bif b8 E R M then d else(1:Int))∧True)∧((!b8 E R M)=false→∀(us_1:List Value),E.length=E.length∧R.length=R.length∧M.length=M.length∧nE E∧nI R∧nR M∧(c≤(64:Int)∧R.length=E.length∧∀(j:Int),d≤j→j < c→inA R j < c)∧us_1=us_1∧us=us∧(AV.ps a).len=b.len∧((∀(j:Nat),j < b.len→(b6 (d,d) a j).fst=(b6 (d,d) (l8 (b8 E R M) a) j).fst)∧(∀(j:Nat),j < b.len→(b6 (d,d) a j).snd=(b6 (d,d) (l8 (b8 E R M) a) j).snd)∧True)∧((c=bif b8 E R M then c else d)∧(AV.ps a).len=b.len∧True)∧(d=bif b8 E R M then d else(1:Int))∧True)):=by kernel_rfl
theorem v13 (E:List Ev) (R:List Int) (M:List (List Int)) (h:SzG E M):q13D E R M:=by
 rw[d77]
 cases hv:b8 E R M
 ·simp only[eq_self,true_and,and_true,z0n,imp_self,l9,m6,n5,g7,g8,PLoop.of,q6,AV.len,g9,z0s,i9,j4,j5,l5,l6,l7,l8,z0l,z3c]
  exact⟨⟨h.1,h.2⟩,by simp⟩
 ·obtain⟨hG,hN⟩:=a06 hv h
  obtain⟨hM,hR⟩:=a1a hv
  simp only[eq_self,true_and,and_true,z0n,imp_self,l9,m6,n5,g7,g8,PLoop.of,q6,AV.len,g9,z0s,i9,j4,j5,l5,l6,l7,l8,z0f,z2p]
  refine⟨⟨h.1,h.2⟩,by simp,?_⟩
  first | exact⟨by omega,⟨hG.2.1.1,hG.2.1.2⟩⟩ | omega
theorem n13 (nm:List (Option AV)):CallOk Tryz.prog GL 13 (o5 EL gbT nm [PG] (a59 y9)):=a5j Tryz.func13 fo13 fun av pre rv h=>by
 unfold a59 at h; split at h <;> cases h
 exact⟨⟨rfl,fun t a e=>by cases e <;> exact z0h _ _⟩,fun hp=>⟨_,v13 _ _ _ (hp _ (.head _)),rfl,(m9 (n33 _) (m9 (a1o (n52 _)) t9)),(a3s c1q (a3s ii51 u4))⟩⟩
def a3v (n:Nat) (a b c:Pf):List Pq:=b7 n (wF (d7 (b7 n a ++ b7 n b ++ b7 n c)) n)
def b1a (a b c:GF):SpG:=fun
 | [.ag [.es E,.is R,.rs M]]=>some ([SzG E M],b4r (b8 E R M) E.length (a3v E.length (a E R M) (b E R M) (c E R M)))
 | _=>none
def a0w (n:Nat) (a b c:Pf):List (Int × List Pq):=[((n:Int),b7 n a),((n:Int),b7 n b),((n:Int),b7 n c)]
theorem a85 (f:Pf) {n:Nat} (hN:n≤64):d8 (n:Int) (b7 n f)=true:=by rw[a6c]; exact(a84 f hN).1
theorem b83 (f:Pf) {n:Nat} (hN:n≤64):(b7 n f).length≤4096:=by
 rw[a6c]
 have h1:=a2v f n n
 have h3:n * n≤64 * 64:=z3a (by omega) (by omega)
 omega
theorem b72 {N:Int} {a b:List Pq} (ha:d8 N a=true) (hb:d8 N b=true):d8 N (a ++ b)=true:=by
 obtain⟨h1,h2,h3⟩:=a05.1 ha
 obtain⟨_,_,h4⟩:=a05.1 hb
 refine a05.2 ⟨h1,h2,fun p hp=>?_⟩
 rcases z0o.1 hp with hp | hp
 ·exact h3 p hp
 ·exact h4 p hp
theorem a6a (n:Nat) (a b c:Pf):p9 (a0w n a b c) (a0w n a b c).length=b7 n a ++ b7 n b ++ b7 n c:=by
 show [] ++ b7 n a ++ b7 n b ++ b7 n c=_
 rw[List.nil_append]
theorem b2h (a b c:Pf) {n:Nat} (hN:n≤64):((a0w n a b c).length≤64∧d8 (n:Int) (p9 (a0w n a b c) (a0w n a b c).length)=true)∧∀ j,j≤(a0w n a b c).length→(p9 (a0w n a b c) j).length≤1000000:=by
 have h1:=b83 a hN
 have h2:=b83 b hN
 have h3:=b83 c hN
 refine⟨⟨by simp[a0w],?_⟩,fun j hj=>?_⟩
 ·rw[a6a]; exact b72 (b72 (a85 a hN) (a85 b hN)) (a85 c hN)
 ·have hj:j≤3:=hj
  match j,hj with
  | 0,_=>simp[p9]
  | 1,_=>show([] ++ b7 n a).length≤_; rw[List.nil_append]; omega
  | 2,_=>show([] ++ b7 n a ++ b7 n b).length≤_; rw[List.nil_append,z0x]; omega
  | 3,_=>show([] ++ b7 n a ++ b7 n b ++ b7 n c).length≤_; rw[List.nil_append,z0x,z0x]; omega
theorem b7x (n:Nat) (a b c:Pf):mkN (fun j=>(s9 (n:Int) (n:Int) (n:Int) j,mkN (fun i=>(s9 (fun j=>(b6 (0,0) (b7 n a) j).1) (fun j=>(b6 (0,0) (b7 n b) j).1) (fun j=>(b6 (0,0) (b7 n c) j).1) j i,s9 (fun j=>(b6 (0,0) (b7 n a) j).2) (fun j=>(b6 (0,0) (b7 n b) j).2) (fun j=>(b6 (0,0) (b7 n c) j).2) j i)) (s9 (b7 n a).length (b7 n b).length (b7 n c).length j))) 3=a0w n a b c:=by
 have e:∀ l:List Pq,mkN (fun i=>((b6 (0,0) l i).1,(b6 (0,0) l i).2)) l.length=l:=fun l=>l9 l
 show [_,_,_]=[_,_,_]
 simp only[s9,e]
theorem fo15:p8 Tryz.prog 15:=⟨Tryz.f15,Tryz.func15,by kernel_rfl,by kernel_rfl⟩
theorem fo53:p8 Tryz.prog 53:=⟨Tryz.f53,Tryz.func53,by kernel_rfl,by kernel_rfl⟩
theorem ii53 {l:List (Nat × PLoop)} {t:List (Nat × (List Slot→List MBlk→List Gh))} {s:List Nat}:a26 (53,⟨Tryz.f53,l,t,s⟩):=⟨Tryz.func53,fo53⟩
def q15D (E:List Ev) (R:List Int) (M:List (List Int)):Prop:=p7 (({ g:=true,calls:=[a52 (nmT E R M),kRl 55 (b5t pgE poG) (nmT E R M),kLis,kCol (nmT E R M),kRl 52 (a78 pgS y9) (nmT E R M),kClz (no 16 ++ [some (.rl (a0w E.length (poG E R M) (i5 E R M) (y9 E R M)))])],inl:=c1x 53 Tryz.f53 }:Kit)).tab Tryz.f15 [b24 E R M] (grT E R M) ((b4r (b8 E R M) E.length (a3v E.length (poG E R M) (i5 E R M) (y9 E R M))).post EL)
theorem d78 (E:List Ev) (R:List Int) (M:List (List Int)):q15D E R M=(
 let a:=a0w E.length (poG E R M) (i5 E R M) (y9 E R M)
 let b:=(↑E.length:Int)
 let c:=l8 (b8 E R M) (a3v E.length (poG E R M) (i5 E R M) (y9 E R M))
 let d:=((0:Int),(0:Int))
 let e:=b7 b (wF (d7 (p9 a a.length)) E.length)
 let f:=b7 b (poG E R M)
 let g:=b7 b (i5 E R M)
 let h:=b7 b (y9 E R M)
 let k:=AV.ps c
 let l:=(0:Int)
 ∀(us:List Value),some tbl=some tbl∧E.length=E.length∧R.length=R.length∧M.length=M.length∧nE E∧nI R∧nR M∧(E.length≤(1099511627776:Nat)∧(M.length≤(8:Nat)→∀(r:List Int),List.Mem r M→r.length≤(1099511627776:Nat)))∧((!b8 E R M)=true→us=us∧k.len=(0:Nat)∧((l=bif b8 E R M then b else l)∧k.len=(0:Nat)∧True)∧((1:Int)=bif b8 E R M then l else(1:Int))∧True)∧((!b8 E R M)=false→∀(us_1:List Value),E.length=E.length∧R.length=R.length∧M.length=M.length∧nE E∧nI R∧nR M∧b≤(64:Int)∧E.length=E.length∧R.length=R.length∧M.length=M.length∧nE E∧nI R∧nR M∧(b=b∧b≤(64:Int))∧E.length=E.length∧R.length=R.length∧M.length=M.length∧nE E∧nI R∧nR M∧(b≤(64:Int)∧R.length=E.length∧∀(j:Int),l≤j→j < b→inA R j < b)∧(AV.ps f).len=(AV.ps f).len∧(AV.ps g).len=(AV.ps g).len∧(AV.ps h).len=(AV.ps h).len∧(3:Nat)=(3:Nat)∧mkN (fun(j:Nat)=>(s9 b b b j,mkN (fun(i:Nat)=>(s9 (fun(j:Nat)=>(b6 d f j).fst) (fun(j:Nat)=>(b6 d g j).fst) (fun(j:Nat)=>(b6 d h j).fst) j i,s9 (fun(j:Nat)=>(b6 d f j).snd) (fun(j:Nat)=>(b6 d g j).snd) (fun(j:Nat)=>(b6 d h j).snd) j i)) (s9 (AV.ps f).len (AV.ps g).len (AV.ps h).len j))) (3:Nat)=a0w E.length (poG E R M) (i5 E R M) (y9 E R M)∧((a.length≤(64:Nat)∧d8 b (p9 a a.length)=true)∧∀(j:Nat),j≤a.length→(p9 a j).length≤(1000000:Nat))∧us_1=us_1∧us=us∧(AV.ps e).len=k.len∧((∀(j:Nat),j < k.len→(b6 d e j).fst=(b6 d c j).fst)∧(∀(j:Nat),j < k.len→(b6 d e j).snd=(b6 d c j).snd)∧True)∧((b=bif b8 E R M then b else l)∧(AV.ps e).len=k.len∧True)∧(l=bif b8 E R M then l else(1:Int))∧True)):=by kernel_rfl
theorem v15 (E:List Ev) (R:List Int) (M:List (List Int)) (h:SzG E M):q15D E R M:=by
 rw[d78]
 cases hv:b8 E R M
 ·simp only[eq_self,true_and,and_true,z0n,imp_self,l9,m6,n5,g7,g8,PLoop.of,q6,AV.len,g9,z0s,i9,j4,j5,l5,l6,l7,l8,z0l,z3c]
  exact⟨⟨h.1,h.2⟩,by simp⟩
 ·obtain⟨hG,hN⟩:=a06 hv h
  obtain⟨hM,hR⟩:=a1a hv
  simp only[eq_self,true_and,and_true,z0n,imp_self,l9,m6,n5,g7,g8,PLoop.of,q6,AV.len,g9,z0s,i9,j4,j5,l5,l6,l7,l8,z0f,z2p,b7x,a3v,a6a]
  refine⟨⟨h.1,h.2⟩,by simp,(by omega),(by omega),⟨by omega,⟨hG.2.1.1,hG.2.1.2⟩⟩,?_⟩
  have h5:=b2h (poG E R M) (i5 E R M) (y9 E R M) hN
  rw[a6a] at h5
  exact h5
theorem n15 (nm:List (Option AV)):CallOk Tryz.prog GL 15 (o5 EL gbT nm [PG] (b1a poG i5 y9)):=a5j Tryz.func15 fo15 fun av pre rv h=>by
 unfold b1a at h; split at h <;> cases h
 exact⟨⟨rfl,fun t a e=>by cases e <;> exact z0h _ _⟩,fun hp=>⟨_,v15 _ _ _ (hp _ (.head _)),rfl,(m9 (n33 _) (m9 (a1o (n55 _)) (m9 (a1o n57) (m9 (a1o (n56 _)) (m9 (a1o (n52 _)) (m9 (a1o (n54 _)) t9)))))),(a3s c1q (a3s ii53 u4))⟩⟩
theorem fo17:p8 Tryz.prog 17:=⟨Tryz.f17,Tryz.func17,by kernel_rfl,by kernel_rfl⟩
theorem fo60:p8 Tryz.prog 60:=⟨Tryz.f60,Tryz.func60,by kernel_rfl,by kernel_rfl⟩
theorem ii60 {l:List (Nat × PLoop)} {t:List (Nat × (List Slot→List MBlk→List Gh))} {s:List Nat}:a26 (60,⟨Tryz.f60,l,t,s⟩):=⟨Tryz.func60,fo60⟩
def q17D (E:List Ev) (R:List Int) (M:List (List Int)):Prop:=p7 (({ g:=true,calls:=[a52 (nmT E R M),kRl 61 (b5t pgR rfG) (nmT E R M),kRl 62 (a78 pgM j7) (nmT E R M),kRl 49 (a78 pgF j6) (nmT E R M),kClz (no 14 ++ [some (.rl (a0w E.length (rfG E R M) (j7 E R M) (j6 E R M)))])],inl:=c1x 60 Tryz.f60 }:Kit)).tab Tryz.f17 [b24 E R M] (grT E R M) ((b4r (b8 E R M) E.length (a3v E.length (rfG E R M) (j7 E R M) (j6 E R M))).post EL)
theorem d79 (E:List Ev) (R:List Int) (M:List (List Int)):q17D E R M=(
 let a:=a0w E.length (rfG E R M) (j7 E R M) (j6 E R M)
 let b:=l8 (b8 E R M) (a3v E.length (rfG E R M) (j7 E R M) (j6 E R M))
 let c:=(↑E.length:Int)
 let d:=((0:Int),(0:Int))
 let e:=b7 c (wF (d7 (p9 a a.length)) E.length)
 let f:=(1099511627776:Nat)
 let g:=b7 c (rfG E R M)
 let h:=b7 c (j7 E R M)
 let k:=b7 c (j6 E R M)
 let l:=AV.ps b
 let m:=(0:Int)
 ∀(us:List Value),some tbl=some tbl∧E.length=E.length∧R.length=R.length∧M.length=M.length∧nE E∧nI R∧nR M∧(E.length≤f∧(M.length≤(8:Nat)→∀(r:List Int),List.Mem r M→r.length≤f))∧((!b8 E R M)=true→us=us∧l.len=(0:Nat)∧((m=bif b8 E R M then c else m)∧l.len=(0:Nat)∧True)∧((1:Int)=bif b8 E R M then m else(1:Int))∧True)∧((!b8 E R M)=false→∀(us_1:List Value),E.length=E.length∧R.length=R.length∧M.length=M.length∧nE E∧nI R∧nR M∧(c≤(64:Int)∧R.length=E.length)∧E.length=E.length∧R.length=R.length∧M.length=M.length∧nE E∧nI R∧nR M∧(c≤(64:Int)∧(E.length≤f∧(M.length≤(8:Nat)→∀(r:List Int),List.Mem r M→r.length≤f))∧M.length≤(8:Nat))∧E.length=E.length∧R.length=R.length∧M.length=M.length∧nE E∧nI R∧nR M∧(c≤(64:Int)∧R.length=E.length∧(E.length≤f∧(M.length≤(8:Nat)→∀(r:List Int),List.Mem r M→r.length≤f))∧M.length≤(8:Nat))∧(AV.ps g).len=(AV.ps g).len∧(AV.ps h).len=(AV.ps h).len∧(AV.ps k).len=(AV.ps k).len∧(3:Nat)=(3:Nat)∧mkN (fun(j:Nat)=>(s9 c c c j,mkN (fun(i:Nat)=>(s9 (fun(j:Nat)=>(b6 d g j).fst) (fun(j:Nat)=>(b6 d h j).fst) (fun(j:Nat)=>(b6 d k j).fst) j i,s9 (fun(j:Nat)=>(b6 d g j).snd) (fun(j:Nat)=>(b6 d h j).snd) (fun(j:Nat)=>(b6 d k j).snd) j i)) (s9 (AV.ps g).len (AV.ps h).len (AV.ps k).len j))) (3:Nat)=a0w E.length (rfG E R M) (j7 E R M) (j6 E R M)∧((a.length≤(64:Nat)∧d8 c (p9 a a.length)=true)∧∀(j:Nat),j≤a.length→(p9 a j).length≤(1000000:Nat))∧us_1=us_1∧us=us∧(AV.ps e).len=l.len∧((∀(j:Nat),j < l.len→(b6 d e j).fst=(b6 d b j).fst)∧(∀(j:Nat),j < l.len→(b6 d e j).snd=(b6 d b j).snd)∧True)∧((c=bif
 b8 E R M then c else m)∧(AV.ps e).len=l.len∧True)∧(m=bif b8 E R M then m else(1:Int))∧True)):=by kernel_rfl
theorem v17 (E:List Ev) (R:List Int) (M:List (List Int)) (h:SzG E M):q17D E R M:=by
 rw[d79]
 cases hv:b8 E R M
 ·simp only[eq_self,true_and,and_true,z0n,imp_self,l9,m6,n5,g7,g8,PLoop.of,q6,AV.len,g9,z0s,i9,j4,j5,l5,l6,l7,l8,z0l,z3c]
  exact⟨⟨h.1,h.2⟩,by simp⟩
 ·obtain⟨hG,hN⟩:=a06 hv h
  obtain⟨hM,hR⟩:=a1a hv
  simp only[eq_self,true_and,and_true,z0n,imp_self,l9,m6,n5,g7,g8,PLoop.of,q6,AV.len,g9,z0s,i9,j4,j5,l5,l6,l7,l8,z0f,z2p,b7x,a3v,a6a]
  refine⟨⟨h.1,h.2⟩,by simp,⟨by omega,hR⟩,⟨by omega,⟨h.1,h.2⟩,by omega⟩,⟨by omega,hR,⟨h.1,h.2⟩,by omega⟩,?_⟩
  have h5:=b2h (rfG E R M) (j7 E R M) (j6 E R M) hN
  rw[a6a] at h5
  exact h5
theorem n17 (nm:List (Option AV)):CallOk Tryz.prog GL 17 (o5 EL gbT nm [PG] (b1a rfG j7 j6)):=a5j Tryz.func17 fo17 fun av pre rv h=>by
 unfold b1a at h; split at h <;> cases h
 exact⟨⟨rfl,fun t a e=>by cases e <;> exact z0h _ _⟩,fun hp=>⟨_,v17 _ _ _ (hp _ (.head _)),rfl,(m9 (n33 _) (m9 (a1o (n61 _)) (m9 (a1o (n62 _)) (m9 (a1o (n49 _)) (m9 (a1o (n54 _)) t9))))),(a3s c1q (a3s ii60 u4))⟩⟩
def m7 (a b:Int):Int:=bif decide (a < b) then -1 else bif decide (a > b) then 1 else 0
def orF:List Int→Int
 | []=>0
 | x :: r=>bif x != 0 then x else orF r
def a5q (a b:Ev):Int:=orF [m7 a.ag b.ag,m7 a.ix b.ix,m7 a.k b.k,m7 a.ob b.ob,m7 a.mu b.mu,m7 a.en b.en,m7 a.od b.od,m7 a.rd b.rd,m7 a.wr b.wr]
def w7 {α:Type} (f:α→α→Int):List α→List α→Int
 | [],[]=>0
 | [],_ :: _=>-1
 | _ :: _,[]=>1
 | x :: r,y :: s=>bif f x y != 0 then f x y else w7 f r s
def q8 (a:List (List Int)) (x:Nat):List Int:=b6 [] a x
def a27 (f:Nat→Int):Nat→Int
 | 0=>0
 | n + 1=>bif a27 f n != 0 then a27 f n else f n
def b3f (a b:List (List Int)):Int:=a27 (fun x=>w7 m7 (q8 a x) (q8 b x)) (if b.length > a.length then b.length else a.length)
theorem c75 {f:Nat→Int} {n j:Nat} (h0:a27 f j=0) (hf:f j≠0) (hj:j < n):a27 f n=f j:=by
 have h1:a27 f (j + 1)=f j:=by
  have:(a27 f j != 0)=false:=by simp[h0]
  rw[a27,this]; rfl
 have key:∀ d,a27 f (j + 1 + d)=f j:=by
  intro d
  induction d with
  | zero=>exact h1
  | succ d ih =>
   rw[← z3e,a27,ih]
   have:(f j != 0)=true:=by simpa using hf
   rw[this]; rfl
 have:=key (n - (j + 1))
 rwa [show j + 1 + (n - (j + 1))=n by omega] at this
theorem c1m {f:Nat→Int} {j:Nat} (h0:a27 f j=0) (hf:f j=0):a27 f (j + 1)=0:=by
 have:(a27 f j != 0)=false:=by simp[h0]
 rw[a27,this]; exact hf
theorem d1d {l:List Int}:∀ {j:Nat},(∀ q,q < j→b6 0 l q=0)→j < l.length→b6 0 l j≠0→orF l=b6 0 l j:=by
 induction l with
 | nil=>intro j _ h; simp at h
 | cons x r ih =>
  intro j h1 h2 h3
  cases j with
  | zero =>
   have:(x != 0)=true:=by simpa [b6] using h3
   rw[orF,this]; rfl
  | succ j =>
   have hx:x=0:=h1 0 (by omega)
   subst hx
   have:=ih (j:=j) (fun q hq=>h1 (q + 1) (by omega)) (by simpa using h2) h3
   simpa [orF,b6] using this
theorem c81 {l:List Int}:(∀ q,q < l.length→b6 0 l q=0)→orF l=0:=by
 induction l with
 | nil=>intro _; rfl
 | cons x r ih =>
  intro h
  have hx:x=0:=h 0 (by simp)
  subst hx
  simpa [orF] using ih fun q hq=>h (q + 1) (by simpa using hq)
section
variable {α:Type} {f:α→α→Int} {d:α}
theorem a9h:∀ {l m:List α} {j:Nat},(∀ q,q < j→f (b6 d l q) (b6 d m q)=0)→j < l.length→j < m.length→f (b6 d l j) (b6 d m j)≠0→w7 f l m=f (b6 d l j) (b6 d m j):=by
 intro l
 induction l with
 | nil=>intro m j _ h; simp at h
 | cons x r ih =>
  intro m j h1 h2 h3 h4
  cases m with
  | nil=>simp at h3
  | cons y s =>
   cases j with
   | zero =>
    have:(f x y != 0)=true:=by simpa [b6] using h4
    rw[w7,this]; rfl
   | succ j =>
    have hx:f x y=0:=h1 0 (by omega)
    have:=ih (m:=s) (j:=j) (fun q hq=>h1 (q + 1) (by omega)) (by simpa using h2) (by simpa using h3) h4
    rw[w7,hx]
    simpa [b6] using this
theorem a65:∀ {l m:List α},(∀ q,q < l.length→q < m.length→f (b6 d l q) (b6 d m q)=0)→w7 f l m=bif decide (m.length < l.length) then 1 else bif decide (l.length < m.length) then -1 else 0:=by
 intro l
 induction l with
 | nil =>
  intro m _
  cases m <;> simp[w7]
 | cons x r ih =>
  intro m h
  cases m with
  | nil=>simp[w7]
  | cons y s =>
   have hx:f x y=0:=h 0 (by simp) (by simp)
   have:=ih (m:=s) fun q h1 h2=>h (q + 1) (by simpa using h1) (by simpa using h2)
   rw[w7,hx]
   simpa using this
end
def c2q:SpP:=fun | [.lf (.i a),.lf (.i b)]=>some ([],plI (m7 a b)) | _=>none
def d0u (n:Nat):Nat × (List MBlk→List SV→Option AR):=(n,o5 EL none [] [.lf .i,.lf .i] c2q)
def sOr:SpP:=fun | [.lf (.is l)]=>some ([L40 l.length],plI (orF l)) | _=>none
def kOr (nm:List (Option AV)):Nat × (List MBlk→List SV→Option AR):=(96,o5 EL none nm [.lf .is] sOr)
def d65:SpP:=fun | [.lf (.ev a),.lf (.ev b)]=>some ([],plI (a5q a b)) | _=>none
def kCmE:Nat × (List MBlk→List SV→Option AR):=(98,o5 EL none [] [.lf .ev,.lf .ev] d65)
def c66:SpP:=fun | [.lf (.is l),.lf (.is m)]=>some ([L40 l.length],plI (w7 m7 l m)) | _=>none
def kCmL (nm:List (Option AV)):Nat × (List MBlk→List SV→Option AR):=(99,o5 EL none nm [.lf .is,.lf .is] c66)
def d66:SpP:=fun | [.lf (.es l),.lf (.es m),.fc 98]=>some ([L40 l.length],plI (w7 a5q l m)) | _=>none
def kCmF (nm:List (Option AV)):Nat × (List MBlk→List SV→Option AR):=(97,o5 EL none nm [.lf .es,.lf .es,.fc 98] d66)
def SzR (M:List (List Int)):Prop:=∀ r∈M,L40 r.length
def d67:SpP:=fun | [.lf (.rs a),.lf (.rs b)]=>some ([(L40 a.length∧L40 b.length)∧SzR a],plI (b3f a b)) | _=>none
def kCmM (nm:List (Option AV)):Nat × (List MBlk→List SV→Option AR):=(92,o5 EL none nm [.lf .rs,.lf .rs] d67)
def a1t (_:Int):Bool:=false
def lOr (l:List Int) (t:Nat):LAnn:=q6 l.length t (fun j=>∀ q,q < j→b6 0 l q=0) (fun _=>[]) []
def b25 {α:Type} (f:α→α→Int) (d:α) (l m:List α) (t:Nat):LAnn:=q6 l.length t (fun j=>j≤m.length∧∀ q,q < j→f (b6 d l q) (b6 d m q)=0) (fun _=>[]) []
def b5o (a b:List (List Int)) (t:Nat):LAnn:=q6 (if b.length > a.length then b.length else a.length) t (fun j=>a27 (fun x=>w7 m7 (q8 a x) (q8 b x)) j=0) (fun _=>[]) []
end Go.Proofs.YtaeeaniofljmnaaGreatDoor

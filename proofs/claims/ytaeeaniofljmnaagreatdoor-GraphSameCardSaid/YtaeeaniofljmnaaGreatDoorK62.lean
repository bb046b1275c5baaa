/-
  A part of the proof (K62).
-/
import Derived.Test.YtaeeaniofljmnaaGreatDoorK61
namespace Go.Proofs.YtaeeaniofljmnaaGreatDoor
set_option linter.unusedSimpArgs false
set_option linter.unusedVariables false
open Go Go.Proofs.YtaeeaniofljmnaaGreatDoor.Sx
set_option maxRecDepth 100000
theorem fdk {E E':List Ev} {R':List Int} {M':List (List Int)} (hv':b8 E' R' M'=true) {i:Int}:b0f E E' i=a63 E E' i:=by
 rw[b0f,a63,← (b33 hv' (evA E i)).1,Bool.not_or,Bool.not_not,Bool.not_not]
theorem d1w {E E':List Ev} {R':List Int} {M':List (List Int)} (hv':b8 E' R' M'=true) (n:Nat):j8 (b0f E E') n=j8 (a63 E E') n:=by
 congr 1
 funext i
 exact fdk hv'
theorem d9z {E E':List Ev} {R':List Int} {M':List (List Int)} (hv':b8 E' R' M'=true) (hf:j8 (a63 E E') E.length=true):L1 E E'=toL E E':=List.map_congr_left fun e he=>by
 obtain⟨i,hi,rfl⟩:=z2s.1 he
 obtain⟨j,a1,_,_⟩:=c48 hf (i:=i) (by omega) (by omega)
 rw[evA,z0s,m7 e0 E i hi] at a1
 exact(b33 hv' _).2 (by rw[a1]; omega)
theorem b9j {E E':List Ev} {i:Nat} (h:i < E.length):(bif Nat.blt i E.length then toK E' (b7 e0 E i) else 0)=toK E' (b7 e0 E i):=by
 have:Nat.blt i E.length=true:=by rw[z0x]; exact h
 rw[this]; rfl
theorem e00 (E E':List Ev):mkN (fun k=>bif Nat.blt k E.length then toK E' (b7 e0 E k) else 0) E.length=L1 E E':=by
 rw[c6d (h:=b7 0 (L1 E E')) fun j hj=>?_]
 ·have:=i7 0 (L1 E E')
  rwa [show(L1 E E').length=E.length by simp[L1]] at this
 ·rw[b9j hj,L1,m7 0 _ j (by simpa using hj),List.getElem_map,m7 e0 E j hj]
theorem fo40:s5 Tryz.prog 40:=⟨Tryz.f40,Tryz.func40,by kernel_rfl,by kernel_rfl⟩
def q40D (E:List Ev) (R:List Int) (M:List (List Int)) (E':List Ev) (R':List Int) (M':List (List Int)):Prop:=s4 (({ g:=true,calls:=[a5d (c8y E R M E' R' M'),kNb (c8y E R M E' R' M'),kArr (c8y E R M E' R' M'),kSmI (c8y E R M E' R' M'),kCmM (c8y E R M E' R' M'),d6r,d5d],inl:=[lisP E (L1 E E')],loops:=[(0,.of (lK1 E E' 39 11))] }:Kit)).tab Tryz.f40 [b2r E R M,c8e E' R' M'] (b0e E R M E' R' M') (m4 (.b (sm1 E R M E' R' M')))
theorem d8q (E:List Ev) (R:List Int) (M:List (List Int)) (E':List Ev) (R':List Int) (M':List (List Int)):q40D E R M E' R' M'=(
 let a:=E.length=E.length∧R.length=R.length∧M.length=M.length
 let b:=E'.length=E'.length∧R'.length=R'.length∧M'.length=M'.length
 let c:=arR R' (L1 E E')
 let d:=(arE E' (L1 E E')).length=(arE E' (L1 E E')).length∧c.length=c.length∧(arM M' (L1 E E')).length=(arM M' (L1 E E')).length
 let e:=(↑E.length:Int)
 let f:=!b8 E R M || !b8 E' R' M'
 let g:=L1 E E'
 let h:=(0:Int)
 let l:=(1099511627776:Nat)
 let m:=!b8 E R M
 let n:=arM M' g
 let o:=!smI R c
 let p:=prI E g
 let q:=!b8 E R M || !b8 E' R' M' || e !=(↑E'.length:Int)
 let s:=lPk E g (6:Nat)
 let t:=(1:Int)
 let u:=arE E' g
 let v:=PLoop.of (lK1 E E' (39:Nat) (11:Nat))
 let w:=PLoop.of (lAl p E.length (10:Nat))
 let y:=!smI R c || a7j M n !=h
 some tbl=some tbl∧E.length=E.length∧R.length=R.length∧M.length=M.length∧nE E∧nI R∧nR M∧(E.length≤l∧(M.length≤(8:Nat)→∀(r:List Int),List.Mem r M→r.length≤l))∧(m=false→some tbl=some tbl)∧(m=false→E'.length=E'.length)∧(m=false→R'.length=R'.length)∧(m=false→M'.length=M'.length)∧(m=false→mkN (fun(j:Nat)=>b7 e0 E' j) E'.length=E')∧(m=false→mkN (b7 h R') R'.length=R')∧(m=false→mkN (fun(j:Nat)=>mkN (fun(i:Nat)=>b7 h (b7 [] M' j) i) (b7 [] M' j).length) M'.length=M')∧(m=false→E'.length≤l∧(M'.length≤(8:Nat)→∀(r:List Int),List.Mem r M'→r.length≤l))∧(q=true→false=sm1 E R M E' R' M')∧(q=false→E'.length=E'.length∧R'.length=R'.length∧M'.length=M'.length∧mkN (fun(j:Nat)=>b7 e0 E' j) E'.length=E'∧mkN (b7 h R') R'.length=R'∧mkN (fun(j:Nat)=>mkN (fun(i:Nat)=>b7 h (b7 [] M' j) i) (b7 [] M' j).length) M'.length=M'∧E'.length≤l∧h≤e∧e=e∧(↑(8:Nat):Int) * e≤(281474976710656:Int)∧e≤(9223372036854775807:Int)∧∃(x:PUnit),(∃(x:Nat),(x≤E.length∧j8 (b0f E E') x=true)∧(h=(↑x:Int)∧True)∧(E.length=E.length∧(∀(j:Nat),j < E.length→h=bif j.blt x then toK E' (b7 e0 E j) else h)∧True)∧True)∧∀(x_1:Nat),x_1≤E.length∧j8 (b0f E E') x_1=true→(decide ((↑x_1:Int) < e)=true→(h≤(↑x_1:Int)∧(↑x_1:Int) < e)∧x_1 < E.length∧((!isS (nbM E' (pk (b7 e0 E x_1).ag (b7 e0 E x_1).ix)))=false→h≤z8 (nbM E' (pk (b7 e0 E x_1).ag (b7 e0 E x_1).ix))∧z8 (nbM E' (pk (b7 e0 E x_1).ag (b7 e0 E x_1).ix)) < (↑E'.length:Int))∧((!isS (nbM E' (pk (b7 e0 E x_1).ag (b7 e0 E x_1).ix)))=false→(z8 (nbM E' (pk (b7 e0 E x_1).ag (b7 e0 E x_1).ix))).toNat <
 E'.length)∧((!isS (nbM E' (pk (b7 e0 E x_1).ag (b7 e0 E x_1).ix)) || !((b7 e0 E' (z8 (nbM E' (pk (b7 e0 E x_1).ag (b7 e0 E x_1).ix))).toNat).ag ==(b7 e0 E x_1).ag && ((b7 e0 E' (z8 (nbM E' (pk (b7 e0 E x_1).ag (b7 e0 E x_1).ix))).toNat).ix ==(b7 e0 E x_1).ix && ((b7 e0 E' (z8 (nbM E' (pk (b7 e0 E x_1).ag (b7 e0 E x_1).ix))).toNat).k ==(b7 e0 E x_1).k && ((b7 e0 E' (z8 (nbM E' (pk (b7 e0 E x_1).ag (b7 e0 E x_1).ix))).toNat).ob ==(b7 e0 E x_1).ob && ((b7 e0 E' (z8 (nbM E' (pk (b7 e0 E x_1).ag (b7 e0 E x_1).ix))).toNat).mu ==(b7 e0 E x_1).mu && ((b7 e0 E' (z8 (nbM E' (pk (b7 e0 E x_1).ag (b7 e0 E x_1).ix))).toNat).en ==(b7 e0 E x_1).en && ((b7 e0 E' (z8 (nbM E' (pk (b7 e0 E x_1).ag (b7 e0 E x_1).ix))).toNat).od ==(b7 e0 E x_1).od && ((b7 e0 E' (z8 (nbM E' (pk (b7 e0 E x_1).ag (b7 e0 E x_1).ix))).toNat).rd ==(b7 e0 E x_1).rd && (b7 e0 E' (z8 (nbM E' (pk (b7 e0 E x_1).ag (b7 e0 E x_1).ix))).toNat).wr ==(b7 e0 E x_1).wr)))))))))=true→false=sm1 E R M E' R' M')∧((!isS (nbM E' (pk (b7 e0 E x_1).ag (b7 e0 E x_1).ix)) || !((b7 e0 E' (z8 (nbM E' (pk (b7 e0 E x_1).ag (b7 e0 E x_1).ix))).toNat).ag ==(b7 e0 E x_1).ag && ((b7 e0 E' (z8 (nbM E' (pk (b7 e0 E x_1).ag (b7 e0 E x_1).ix))).toNat).ix ==(b7 e0 E x_1).ix && ((b7 e0 E' (z8 (nbM E' (pk (b7 e0 E x_1).ag (b7 e0 E x_1).ix))).toNat).k ==(b7 e0 E x_1).k && ((b7 e0 E' (z8 (nbM E' (pk (b7 e0 E x_1).ag (b7 e0 E x_1).ix))).toNat).ob ==(b7 e0 E x_1).ob && ((b7 e0 E' (z8 (nbM E' (pk (b7 e0 E x_1).ag (b7 e0 E x_1).ix))).toNat).mu ==(b7 e0 E
 x_1).mu && ((b7 e0 E' (z8 (nbM E' (pk (b7 e0 E x_1).ag (b7 e0 E x_1).ix))).toNat).en ==(b7 e0 E x_1).en && ((b7 e0 E' (z8 (nbM E' (pk (b7 e0 E x_1).ag (b7 e0 E x_1).ix))).toNat).od ==(b7 e0 E x_1).od && ((b7 e0 E' (z8 (nbM E' (pk (b7 e0 E x_1).ag (b7 e0 E x_1).ix))).toNat).rd ==(b7 e0 E x_1).rd && (b7 e0 E' (z8 (nbM E' (pk (b7 e0 E x_1).ag (b7 e0 E x_1).ix))).toNat).wr ==(b7 e0 E x_1).wr)))))))))=false→(h≤(↑x_1:Int)∧(↑x_1:Int) < e)∧x_1 < E.length∧∃(x_2:Nat),(x_2≤E.length∧j8 (b0f E E') x_2=true)∧(v.ann x).mu x_2 < (v.ann x).mu x_1∧(a∧b∧True∧True∧True∧True∧True∧a∧b8 E R M=b8 E R M∧m =!b8 E R M∧m =!b8 E R M∧f=f∧f=f∧false=false∧b∧True∧True∧E.length=E.length∧e=e∧E.length=E.length∧True∧E.length=E.length∧e=e∧IntKind.i64.wrap ((↑x_1:Int) + t)=(↑x_2:Int)∧True)∧eqT∧eqA E.length (i6 E)∧eqA R.length (e8 R)∧eqA M.length (i4 M)∧eqA E'.length (i6 E')∧eqA R'.length (e8 R')∧eqA M'.length (i4 M')∧a∧b∧false=false∧(∀(x:Int),nbM E' x=nbM E' x)∧(E.length=E.length∧(∀(j:Nat),j < E.length→(bif j.beq x_1 then z8 (nbM E' (pk (b7 e0 E x_1).ag (b7 e0 E x_1).ix)) else bif j.blt x_1 then toK E' (b7 e0 E j) else h)=bif j.blt x_2 then toK E' (b7 e0 E j) else h)∧True)∧E.length=E.length∧True))∧(decide ((↑x_1:Int) < e)=false→E'.length=E'.length∧R'.length=R'.length∧M'.length=M'.length∧mkN (fun(j:Nat)=>b7 e0 E' j) E'.length=E'∧mkN (b7 h R') R'.length=R'∧mkN (fun(j:Nat)=>mkN (fun(i:Nat)=>b7 h (b7 [] M' j) i) (b7 [] M' j).length) M'.length=M'∧E.length=E.length∧mkN (fun(k:Nat)=>bif k.blt x_1 then toK E' (b7 e0 E k)
 else h) E.length=L1 E E'∧((g.length≤(64:Nat)∧R'.length=E'.length∧M'.length≤(8:Nat))∧(∀(r:List Int),List.Mem r M'→r.length≤l)∧∀(i:Int),List.Mem i g→h≤i∧i < (↑E'.length:Int))∧R.length=R.length∧nI R∧c.length=c.length∧mkN (b7 h c) c.length=arR R' g∧R.length≤l∧(o=false→M.length=M.length)∧(o=false→nR M)∧(o=false→n.length=n.length)∧(o=false→mkN (fun(j:Nat)=>mkN (fun(i:Nat)=>b7 h (b7 [] n j) i) (b7 [] n j).length) n.length=arM M' g)∧(o=false→(M.length≤l∧n.length≤l)∧∀(r:List Int),List.Mem r M→r.length≤l)∧(y=true→false=sm1 E R M E' R' M')∧(y=false→∀(us:List Value) (cd:LupCd) (x:Option Addr × Nat),∃(x:PUnit),(∃(x:Nat),(x≤E.length∧j8 p x=true)∧(h=(↑x:Int)∧True)∧True)∧∀(x_2:Nat),x_2≤E.length∧j8 p x_2=true→(decide ((↑x_2:Int) < e)=true→(h≤(↑x_2:Int)∧(↑x_2:Int) < e)∧x_2 < E.length∧∃(x_3:Nat),(∃(x:Nat),(x_3 < E.length∧x_3 + (1:Nat)≤x∧x≤E.length∧j8 p x_3=true∧j8 (prR E g (↑x_3:Int)) x=true)∧(IntKind.i64.wrap ((↑x_2:Int) + t)=(↑x:Int)∧True)∧True)∧∀(x_4:Nat),x_3 < E.length∧x_3 + (1:Nat)≤x_4∧x_4≤E.length∧j8 p x_3=true∧j8 (prR E g (↑x_3:Int)) x_4=true→(decide ((↑x_4:Int) < e)=true→(h≤(↑x_4:Int)∧(↑x_4:Int) < e)∧x_4 < E.length∧(a41 (b7 e0 E x_2) (b7 e0 E x_4)=true→∀(us_1:List Value),us=us∧cd=cd∧us=us∧us=us∧cd=cd∧(h≤(↑x_2:Int)∧(↑x_2:Int) < e)∧x_2 < E.length∧(h≤(↑x_4:Int)∧(↑x_4:Int) < e)∧x_4 < E.length∧(decide ((bif x_2.blt x_1 then toK E' (b7 e0 E x_2) else h) > bif x_4.blt x_1 then toK E' (b7 e0 E x_4) else h)=true→us=us∧cd=cd∧us_1=us_1∧us=us∧us=us∧cd=cd∧false=sm1 E R M E' R' M')∧(decide ((bif
 x_2.blt x_1 then toK E' (b7 e0 E x_2) else h) > bif x_4.blt x_1 then toK E' (b7 e0 E x_4) else h)=false→us=us∧cd=cd∧us_1=us_1∧∃(x:Nat),(x_3 < E.length∧x_3 + (1:Nat)≤x∧x≤E.length∧j8 p x_3=true∧j8 (prR E g (↑x_3:Int)) x=true)∧(s.ann x_3).mu x < (s.ann x_3).mu x_4∧(True∧True∧True∧(↑x_2:Int)=(↑x_2:Int)∧True∧IntKind.i64.wrap ((↑x_4:Int) + t)=(↑x:Int)∧True∧E.length=E.length∧e=e∧(↑x_2:Int)=(↑x_2:Int)∧true=true∧(↑x_2:Int)=(↑x_2:Int)∧x_2=x_2∧((b7 e0 E x_2).ag=(b7 e0 E x_2).ag∧(b7 e0 E x_2).ix=(b7 e0 E x_2).ix∧(b7 e0 E x_2).k=(b7 e0 E x_2).k∧(b7 e0 E x_2).ob=(b7 e0 E x_2).ob∧(b7 e0 E x_2).mu=(b7 e0 E x_2).mu∧(b7 e0 E x_2).en=(b7 e0 E x_2).en∧(b7 e0 E x_2).od=(b7 e0 E x_2).od∧(b7 e0 E x_2).rd=(b7 e0 E x_2).rd∧(b7 e0 E x_2).wr=(b7 e0 E x_2).wr)∧(↑x_2:Int)=(↑x_2:Int)∧IntKind.i64.wrap ((↑x_2:Int) + t)=IntKind.i64.wrap ((↑x_2:Int) + t)∧True)∧eqT∧eqA E.length (i6 E)∧eqA R.length (e8 R)∧eqA M.length (i4 M)∧eqA E'.length (i6 E')∧eqA R'.length (e8 R')∧eqA M'.length (i4 M')∧a∧b∧false=false∧(∀(x:Int),nbM E' x=nbM E' x)∧eqA E.length [Col.int IntKind.i64 fun(k:Nat)=>bif k.blt x_1 then toK E' (b7 e0 E k) else h]∧E.length=E.length∧eqA u.length (i6 u)∧eqA c.length (e8 c)∧eqA n.length (i4 n)∧d∧a∧True∧((a∧b∧True∧True∧True∧True∧True∧True∧True∧True∧True∧True∧True∧a∧b8 E R M=b8 E R M∧m =!b8 E R M∧m =!b8 E R
 M∧True∧True∧True∧f=f∧f=f∧True∧True∧True∧True∧True∧True∧True∧false=false∧b∧True∧True∧E.length=E.length∧e=e∧E.length=E.length∧True∧E.length=E.length∧e=e∧(↑x_1:Int)=(↑x_1:Int)∧false=false∧True∧True∧True∧True∧True∧True∧True∧True∧True∧True∧True∧True∧True∧True∧True∧True∧True∧True∧True∧True∧True∧True∧True∧True∧True∧True∧True∧True∧True∧b∧E.length=E.length∧d∧True∧R.length=R.length∧True∧c.length=c.length∧smI R c=smI R c∧o =!smI R c∧o =!smI R c∧True∧True∧True∧True∧True∧True∧false=false∧a∧(True∧True)∧True∧True∧True∧True∧True∧True∧True∧True∧True∧True∧True∧True)∧us=us)∧(us=us∧cd=cd)∧((b7 e0 E x_2).ag=(b7 e0 E x_2).ag∧(b7 e0 E x_2).ix=(b7 e0 E x_2).ix∧(b7 e0 E x_2).k=(b7 e0 E x_2).k∧(b7 e0 E x_2).ob=(b7 e0 E x_2).ob∧(b7 e0 E x_2).mu=(b7 e0 E x_2).mu∧(b7 e0 E x_2).en=(b7 e0 E x_2).en∧(b7 e0 E x_2).od=(b7 e0 E x_2).od∧(b7 e0 E x_2).rd=(b7 e0 E x_2).rd∧(b7 e0 E x_2).wr=(b7 e0 E x_2).wr)∧True))∧(a41 (b7 e0 E x_2) (b7 e0 E x_4) =!true→∃(x:Nat),(x_3 < E.length∧x_3 + (1:Nat)≤x∧x≤E.length∧j8 p x_3=true∧j8 (prR E g (↑x_3:Int)) x=true)∧(s.ann x_3).mu x < (s.ann x_3).mu x_4∧(True∧True∧True∧(↑x_2:Int)=(↑x_2:Int)∧True∧IntKind.i64.wrap ((↑x_4:Int) + t)=(↑x:Int)∧True∧E.length=E.length∧e=e∧(↑x_2:Int)=(↑x_2:Int)∧true=true∧(↑x_2:Int)=(↑x_2:Int)∧x_2=x_2∧((b7 e0 E x_2).ag=(b7 e0 E x_2).ag∧(b7 e0 E x_2).ix=(b7 e0 E x_2).ix∧(b7 e0 E x_2).k=(b7 e0 E x_2).k∧(b7 e0 E x_2).ob=(b7 e0 E x_2).ob∧(b7 e0 E x_2).mu=(b7 e0 E x_2).mu∧(b7 e0 E x_2).en=(b7 e0 E x_2).en∧(b7 e0 E x_2).od=(b7 e0 E x_2).od∧(b7 e0 E x_2).rd=(b7
 e0 E x_2).rd∧(b7 e0 E x_2).wr=(b7 e0 E x_2).wr)∧(↑x_2:Int)=(↑x_2:Int)∧IntKind.i64.wrap ((↑x_2:Int) + t)=IntKind.i64.wrap ((↑x_2:Int) + t)∧True)∧eqT∧eqA E.length (i6 E)∧eqA R.length (e8 R)∧eqA M.length (i4 M)∧eqA E'.length (i6 E')∧eqA R'.length (e8 R')∧eqA M'.length (i4 M')∧a∧b∧false=false∧(∀(x:Int),nbM E' x=nbM E' x)∧eqA E.length [Col.int IntKind.i64 fun(k:Nat)=>bif k.blt x_1 then toK E' (b7 e0 E k) else h]∧E.length=E.length∧eqA u.length (i6 u)∧eqA c.length (e8 c)∧eqA n.length (i4 n)∧d∧a∧True∧((a∧b∧True∧True∧True∧True∧True∧True∧True∧True∧True∧True∧True∧a∧b8 E R M=b8 E R M∧m =!b8 E R M∧m =!b8 E R M∧True∧True∧True∧f=f∧f=f∧True∧True∧True∧True∧True∧True∧True∧false=false∧b∧True∧True∧E.length=E.length∧e=e∧E.length=E.length∧True∧E.length=E.length∧e=e∧(↑x_1:Int)=(↑x_1:Int)∧false=false∧True∧True∧True∧True∧True∧True∧True∧True∧True∧True∧True∧True∧True∧True∧True∧True∧True∧True∧True∧True∧True∧True∧True∧True∧True∧True∧True∧True∧True∧b∧E.length=E.length∧d∧True∧R.length=R.length∧True∧c.length=c.length∧smI R c=smI R c∧o =!smI R c∧o =!smI R c∧True∧True∧True∧True∧True∧True∧false=false∧a∧(True∧True)∧True∧True∧True∧True∧True∧True∧True∧True∧True∧True∧True∧True)∧us=us)∧(us=us∧cd=cd)∧((b7 e0 E x_2).ag=(b7 e0 E x_2).ag∧(b7 e0 E x_2).ix=(b7 e0 E x_2).ix∧(b7 e0 E x_2).k=(b7 e0 E x_2).k∧(b7 e0 E x_2).ob=(b7 e0 E x_2).ob∧(b7 e0 E x_2).mu=(b7 e0 E x_2).mu∧(b7 e0 E x_2).en=(b7 e0 E x_2).en∧(b7 e0 E x_2).od=(b7 e0 E x_2).od∧(b7 e0 E x_2).rd=(b7 e0 E x_2).rd∧(b7 e0 E x_2).wr=(b7 e0 E x_2).wr)∧True))∧(decide
 ((↑x_4:Int) < e)=false→∃(x_5:Nat),(x_5≤E.length∧j8 p x_5=true)∧(w.ann x).mu x_5 < (w.ann x).mu x_2∧(True∧True∧True∧True∧E.length=E.length∧e=e∧IntKind.i64.wrap ((↑x_2:Int) + t)=(↑x_5:Int)∧True)∧eqT∧eqA E.length (i6 E)∧eqA R.length (e8 R)∧eqA M.length (i4 M)∧eqA E'.length (i6 E')∧eqA R'.length (e8 R')∧eqA M'.length (i4 M')∧a∧b∧false=false∧(∀(x:Int),nbM E' x=nbM E' x)∧eqA E.length [Col.int IntKind.i64 fun(k:Nat)=>bif k.blt x_1 then toK E' (b7 e0 E k) else h]∧E.length=E.length∧eqA u.length (i6 u)∧eqA c.length (e8 c)∧eqA n.length (i4 n)∧d∧a∧True∧((a∧b∧True∧True∧True∧True∧True∧True∧True∧True∧True∧True∧True∧a∧b8 E R M=b8 E R M∧m =!b8 E R M∧m =!b8 E R M∧True∧True∧True∧f=f∧f=f∧True∧True∧True∧True∧True∧True∧True∧false=false∧b∧True∧True∧E.length=E.length∧e=e∧E.length=E.length∧True∧E.length=E.length∧e=e∧(↑x_1:Int)=(↑x_1:Int)∧false=false∧True∧True∧True∧True∧True∧True∧True∧True∧True∧True∧True∧True∧True∧True∧True∧True∧True∧True∧True∧True∧True∧True∧True∧True∧True∧True∧True∧True∧True∧b∧E.length=E.length∧d∧True∧R.length=R.length∧True∧c.length=c.length∧smI R c=smI R c∧o =!smI R c∧o =!smI R c∧True∧True∧True∧True∧True∧True∧false=false∧a∧(True∧True)∧True∧True∧True∧True∧True∧True∧True∧True∧True∧True∧True∧True)∧us=us)∧(us=us∧cd=cd)∧True))∧(decide ((↑x_2:Int) < e)=false→us=us∧us=us∧cd=cd∧true=sm1 E R M E' R' M'))))):=by kernel_rfl
theorem v40 (E:List Ev) (R:List Int) (M:List (List Int)) (E':List Ev) (R':List Int) (M':List (List Int)) (h:SzG E M) (h':SzG E' M'):q40D E R M E' R' M':=by
 rw[d8q]
 simp only[eq_self,true_and,and_true,z0o,imp_self,o6,o8,p7,i7,i9,PLoop.of,s8,AV.len,j4,z0u,l4,l5,l6,m8,m9,n5,lK1,lPk,lAl]
 have h1:E.length≤1099511627776:=h.1
 have h1':E'.length≤1099511627776:=h'.1
 have hw0:((8:Nat):Int) * (E.length:Int)≤281474976710656:=by omega
 refine⟨⟨h.1,h.2⟩,fun _=>⟨h'.1,h'.2⟩,fun hc=>?_,fun hc=>⟨h1',by omega,hw0,by omega,(),⟨0,⟨by omega,rfl⟩,rfl,fun j _=>rfl⟩,fun i hi=>⟨fun hli=>?_,fun hli=>?_⟩⟩⟩
 ·have:sm0 E R M E' R' M'=true:=hc
  rw[sm1,this]; rfl
 ·have hi2:i < E.length:=by have:=z0e hli; omega
  have ei:evA E (i:Int)=b7 e0 E i:=by rw[evA,z0s]
  have hb:(!isS (nbM E' (pk (b7 e0 E i).ag (b7 e0 E i).ix)))=false→0≤z8 (nbM E' (pk (b7 e0 E i).ag (b7 e0 E i).ix))∧z8 (nbM E' (pk (b7 e0 E i).ag (b7 e0 E i).ix)) < E'.length:=fun hs=>by
   cases hq:nbM E' (pk (b7 e0 E i).ag (b7 e0 E i).ix) with
   | none=>rw[hq] at hs; cases hs
   | some v =>
    obtain⟨k,hk,rfl,_⟩:=b8u hq
    simp only[z8]; omega
  refine⟨⟨by omega,by omega⟩,hi2,hb,fun hs=>a10 (hb hs),fun hd=>?_,fun hd=>⟨⟨by omega,by omega⟩,hi2,i + 1,⟨by omega,?_⟩,by omega,wrS (n:=E.length) hi2 h1,fun j hj=>?_⟩⟩
  ·have:b0f E E' i=false:=by
    have hd2:(!isS (at1 E' (evA E i)) || !a5c (evA E' (toK E' (evA E i))) (evA E i))=true:=by rw[ei]; exact hd
    rw[b0f,hd2]; rfl
   rw[sm1,a06 (f:=b0f E E') hi2 this,Bool.false_and,z3h]
  ·have hd2:(!isS (at1 E' (evA E i)) || !a5c (evA E' (toK E' (evA E i))) (evA E i))=false:=by rw[ei]; exact hd
   rw[j8,hi.2,z0y,b0f,hd2]; rfl
  ·cases hb2:Nat.beq j i
   ·have hne:j≠i:=fun e=>by rw[e,z2x] at hb2; cases hb2
    have:Nat.blt j i=Nat.blt j (i + 1):=by rw[z2j,z0x,z0x]; omega
    rw[z0l,this]
   ·have hje:=z0b hb2
    subst hje
    have:Nat.blt j (j + 1)=true:=by rw[z0x]; omega
    rw[this]; rfl
 have hi2:i=E.length:=by have:=z0i hli; omega
 subst hi2
 have hF:=hi.2
 have hs0:sm0 E R M E' R' M'=false:=hc
 simp only[z1j,z3b,bne_eq_false_iff_eq] at hc
 obtain⟨⟨hv,hv'⟩,hn⟩:=hc
 have hn:E'.length=E.length:=by omega
 have hf:j8 (a63 E E') E.length=true:=by rw[← d1w hv']; exact hF
 have hT:=d15 hv hv' hn hf
 rw[← d9z hv' hf] at hT
 obtain⟨hG1,hN1⟩:=a0g hv h
 obtain⟨hG2,hN2⟩:=a0g hv' h'
 obtain⟨hM1,hR1⟩:=a14 hv
 obtain⟨hM2,hR2⟩:=a14 hv'
 have hLl:(L1 E E').length=E.length:=by simp[L1]
 have hLi:∀ j:Nat,j < E.length→inA (L1 E E') j=toK E' (b7 e0 E j):=fun j hj=>by rw[L1,b8b _ (by omega) (by omega),evA,z0s]
 refine⟨e00 E E',⟨⟨by omega,hR2,hM2⟩,h'.2 hM2,fun i hi=>by have:=hT.p.bd i hi; omega⟩,by omega,fun _=>⟨⟨by omega,by simp only[arM,z2k]; omega⟩,h.2 hM1⟩,fun hd=>?_,fun hd cd=>⟨(),⟨0,⟨by omega,rfl⟩,rfl⟩,fun a ha=>⟨fun hla=>?_,fun hla=>?_⟩⟩⟩
 ·rw[sm1,hd]; simp
 ·have ha2:a < E.length:=by have:=z0e hla; omega
  have hpr:∀ m:Nat,m≤a + 1→j8 (prR E (L1 E E') a) m=true:=fun m hm=>x4.2 fun q hq=>by
   have:decide ((a:Int) < (q:Int))=false:=by simp; omega
   rw[prR,this]; rfl
  refine⟨⟨by omega,by omega⟩,ha2,a,⟨a + 1,⟨ha2,by omega,by omega,ha.2,hpr _ (z0r _)⟩,wrS (n:=E.length) ha2 (by omega)⟩,fun b hb=>⟨fun hlb=>?_,fun hlb=>?_⟩⟩
  ·have hb2:b < E.length:=by have:=z0e hlb; omega
   have ea:evA E (a:Int)=b7 e0 E a:=by rw[evA,z0s]
   have eb:evA E (b:Int)=b7 e0 E b:=by rw[evA,z0s]
   have hlt:decide ((a:Int) < (b:Int))=true:=by simp; omega
   rw[b9j ha2,b9j hb2,← hLi a ha2,← hLi b hb2]
   have nx:prR E (L1 E E') a b=true→∃ x,(a < E.length∧a + 1≤x∧x≤E.length∧j8 (prI E (L1 E E')) a=true∧j8 (prR E (L1 E E') a) x=true)∧E.length - x < E.length - b∧IntKind.i64.wrap ((b:Int) + 1)=(x:Int):=fun hp =>
    ⟨b + 1,⟨ha2,by omega,by omega,ha.2,by rw[j8,hb.2.2.2.2,z0y]; exact hp⟩,by omega,wrS (n:=E.length) hb2 (by omega)⟩
   refine⟨⟨by omega,by omega⟩,hb2,fun hg=>⟨⟨by omega,by omega⟩,ha2,⟨by omega,by omega⟩,hb2,fun hx=>?_,fun hx=>nx ?_⟩,fun hg=>nx ?_⟩
   ·have:prR E (L1 E E') a b=false:=by rw[prR,hlt,ea,eb,hg,hx]; rfl
    have h2:prI E (L1 E E') a=false:=a06 hb2 this
    rw[sm1,a06 (f:=prI E (L1 E E')) ha2 h2]; simp
   ·rw[prR,hlt,ea,eb,hg,hx]; rfl
   ·have hg:a41 (b7 e0 E a) (b7 e0 E b)=false:=hg
    rw[prR,hlt,ea,eb,hg]; rfl
  ·have hb2:b=E.length:=by have:=z0i hlb; omega
   subst hb2
   exact⟨a + 1,⟨by omega,by rw[j8,ha.2,z0y]; exact hb.2.2.2.2⟩,by omega,wrS (n:=E.length) ha2 (by omega)⟩
 ·have ha2:a=E.length:=by have:=z0i hla; omega
  subst ha2
  rw[sm1,hs0,hF,hd,ha.2]; rfl
theorem n40 (nm:List (Option AV)):CallOk Tryz.prog GL 40 (q6 EL gbT nm [PG,PG] d7u):=a5i Tryz.func40 fo40 fun av pre rv h=>by
 unfold d7u at h; split at h <;> cases h
 exact⟨⟨rfl,fun t a e=>by cases e <;> exact z0h _ _⟩,fun hp=>⟨_,v40 _ _ _ _ _ _ (hp _ (.head _)) (hp _ (.tail _ (.head _))),rfl,(o5 (n33 _) (o5 (a1n (n90 _)) (o5 (a1n (n65 _)) (o5 (a1n (n91 _)) (o5 (a1n (n92 _)) (o5 n57 (o5 (a1n (n58 _)) v4))))))),(a3y d5a v5)⟩⟩
end Go.Proofs.YtaeeaniofljmnaaGreatDoor

/-
  A part of the proof (K46a).
-/
import Derived.Test.YtaeeaniofljmnaaGreatDoorKN
namespace Go.Proofs.YtaeeaniofljmnaaGreatDoor
set_option linter.unusedSimpArgs false
set_option linter.unusedVariables false
open Go Go.Proofs.YtaeeaniofljmnaaGreatDoor.Sx
set_option maxRecDepth 100000
theorem fo64:s5 Tryz.prog 64:=⟨Tryz.f64,Tryz.func64,by kernel_rfl,by kernel_rfl⟩
def q64D (l:List Int) (x:Int):Prop:=s4 (({ calls:=[c5w 121 []] }:Kit)).tab Tryz.f64 [.sl 0 l.length,.i .i64 x] [.arr l.length (e8 l)] (m4 (.b (b05 l x)))
theorem d98 (l:List Int) (x:Int):q64D l x=(l.length=l.length∧(mkN (b7 (0:Int) l) l.length).length≤(1099511627776:Nat)∧decide (w9 (mkN (b7 (0:Int) l) l.length) x ≥ (0:Int))=b05 l x):=by kernel_rfl
theorem v64 (l:List Int) (x:Int) (h:L40 l.length):q64D l x:=by
 rw[d98]
 simp only[eq_self,true_and,and_true,z0o,imp_self,o6,o8,p7,i7,i9,PLoop.of,s8,AV.len,j4,z0u,l4,l5,l6,m8,m9,n5,b05]
 first | exact h | simpa using h
theorem n64 (nm:List (Option AV)):CallOk Tryz.prog [] 64 (q6 EL none nm [.lf .is,.lf .i] d7h):=z4 Tryz.func64 fo64 fun av pre rv h=>by
 unfold d7h at h; split at h <;> cases h
 exact⟨⟨rfl,fun t a e=>by cases e <;> exact z0h _ _⟩,fun hp=>⟨_,v64 _ _ (hp _ (.head _)),rfl,(o5 (n121 _) v4),v5⟩⟩
theorem nPre (E:List Ev) (R:List Int) (M:List (List Int)):CallOk Tryz.prog [] 54 (q6 EL none [] [.lf .i,.lf .rl] (d7q E R M)):=z4 Tryz.func54 fo54 fun av pre rv h=>by
 unfold d7q at h; split at h <;> cases h
 refine⟨⟨rfl,fun t a e=>by cases e <;> exact z0h _ _⟩,fun hp=>?_⟩
 obtain⟨⟨h1,h2⟩,h3⟩:=hp _ (.head _)
 subst h1 h3
 exact⟨_,v54 _ _ (b34 _ _ _ h2),rfl,o5 (n110 _) v4,v5⟩
def c9h (E:List Ev) (R:List Int) (M:List (List Int)):Prop:=
 let a:=(↑E.length:Int)
 let b:=d9 E R M
 let c:=E.length=E.length∧R.length=R.length∧M.length=M.length
 let d:=((0:Int),(0:Int))
 let e:=AV.ps b
 let f:=b9 a (poG E R M)
 let g:=b9 a (rfG E R M)
 let h:=d5 (s6 E R M) (arE E (w8 E R M))
 let l:=b9 a (j7 E R M)
 let m:=(0:Int)
 let n:=a=a∧e.len=e.len
 let o:=(↑e.len:Int)
 let p:=d5 (s6 E R M) (arM M (w8 E R M))
 let q:=u4 (AV.ps f).len (AV.ps g).len (AV.ps l).len
 let s:=a=a∧(AV.ps f).len=(AV.ps f).len
 let t:=a=a∧(AV.ps g).len=(AV.ps g).len
 let u:=a=a∧(AV.ps l).len=(AV.ps l).len
 let v:=d5 (s6 E R M) (arR R (w8 E R M))
 let w:=(1:Nat)
 let y:=(3:Nat)
 let z:=True∧True∧True
 let A:=lN4 E b (101:Nat) (17:Nat)
 let B:=lN3 E b (61:Nat) (10:Nat)
 let C:=True∧True
 let D:=PLoop.of (lN2 E b (9:Nat) (18:Nat) (17:Nat))
 let F:=PLoop.of (lN1 E.length b (42:Nat) (17:Nat))
 let G:=u4 a a a
 let H:=(1099511627776:Nat)
 let I:=(1:Int)
 let J:=(0:Nat)
 R.length=R.length∧M.length=M.length∧nE E∧nI R∧nR M∧a≤(64:Int)∧E.length=E.length∧R.length=R.length∧M.length=M.length∧nE E∧nI R∧nR M∧(a≤(64:Int)∧R.length=E.length)∧E.length=E.length∧R.length=R.length∧M.length=M.length∧nE E∧nI R∧nR M∧(a=a∧a≤(64:Int))∧(AV.ps f).len=(AV.ps f).len∧(AV.ps g).len=(AV.ps g).len∧(AV.ps l).len=(AV.ps l).len∧y=y∧((a=a∧E.length≤(64:Nat))∧mkN (fun(j:Nat)=>(u4 a a a j,mkN (fun(i:Nat)=>(u4 (fun(j:Nat)=>(b7 d f j).fst) (fun(j:Nat)=>(b7 d g j).fst) (fun(j:Nat)=>(b7 d l j).fst) j i,u4 (fun(j:Nat)=>(b7 d f j).snd) (fun(j:Nat)=>(b7 d g j).snd) (fun(j:Nat)=>(b7 d l j).snd) j i)) (u4 (AV.ps f).len (AV.ps g).len (AV.ps l).len j))) y=a17 E.length (poG E R M) (rfG E R M) (j7 E R M))∧e.len=e.len∧(mkN (fun(j:Nat)=>((b7 d b j).fst,(b7 d b j).snd)) e.len).length≤H∧((!(g7 a (mkN (fun(j:Nat)=>((b7 d b j).fst,(b7 d b j).snd)) e.len) && a30 E.length (wF (f7 (mkN (fun(j:Nat)=>((b7 d b j).fst,(b7 d b j).snd)) e.len)) E.length)))=true→(20:Int)=a2f E R M∧h.length=J∧v.length=J∧p.length=J)∧((!(g7 a (mkN (fun(j:Nat)=>((b7 d b j).fst,(b7 d b j).snd)) e.len) && a30 E.length (wF (f7 (mkN (fun(j:Nat)=>((b7 d b j).fst,(b7 d b j).snd)) e.len)) E.length)))=false→m≤a∧a=a∧(↑(8:Nat):Int) * a≤(281474976710656:Int)∧a≤(9223372036854775807:Int)∧∃(x:PUnit),(∃(x:Nat),(x≤b.length∧True)∧(m=(↑x:Int)∧True)∧(E.length=E.length∧(∀(j:Nat),j < E.length→m=a6w b [] (↑j:Int) x)∧True)∧True)∧∀(x_1:Nat),x_1≤b.length∧True→(decide ((↑x_1:Int) < o)=true→(m≤(↑x_1:Int)∧(↑x_1:Int) < o)∧x_1 < e.len∧(m≤(b7 d b
 x_1).snd∧(b7 d b x_1).snd < a)∧(b7 d b x_1).snd.toNat < E.length∧(m≤(b7 d b x_1).snd∧(b7 d b x_1).snd < a)∧(b7 d b x_1).snd.toNat < E.length∧∃(x_2:Nat),(x_2≤b.length∧True)∧(F.ann x).mu x_2 < (F.ann x).mu x_1∧(c∧True∧True∧m=m∧a=a∧True∧E.length=E.length∧c∧b8 E R M=b8 E R M∧false=false∧True∧E.length=E.length∧a=a∧a=a∧c∧s∧c∧t∧a=a∧c∧C∧u∧y=y∧n∧n∧(g7 a (mkN (fun(j:Nat)=>((b7 d b j).fst,(b7 d b j).snd)) e.len) && a30 E.length (wF (f7 (mkN (fun(j:Nat)=>((b7 d b j).fst,(b7 d b j).snd)) e.len)) E.length))=(g7 a (mkN (fun(j:Nat)=>((b7 d b j).fst,(b7 d b j).snd)) e.len) && a30 E.length (wF (f7 (mkN (fun(j:Nat)=>((b7 d b j).fst,(b7 d b j).snd)) e.len)) E.length))∧false=false∧a=a∧E.length=E.length∧True∧e.len=e.len∧o=o∧IntKind.i64.wrap ((↑x_1:Int) + I)=(↑x_2:Int)∧True)∧eqT∧eqA E.length (i6 E)∧eqA R.length (e8 R)∧eqA M.length (i4 M)∧c∧z∧eqP f∧eqP g∧c∧True∧eqP l∧eqA y [Col.int IntKind.i64 G,Col.rows q [u4 (fun(j:Nat)=>(b7 d f j).fst) (fun(j:Nat)=>(b7 d g j).fst) fun(j:Nat)=>(b7 d l j).fst,u4 (fun(j:Nat)=>(b7 d f j).snd) (fun(j:Nat)=>(b7 d g j).snd) fun(j:Nat)=>(b7 d l j).snd]]∧eqP b∧n∧(E.length=E.length∧(∀(j:Nat),j < E.length→(bif j.beq (b7 d b x_1).snd.toNat then IntKind.i64.wrap (a6w b [] (↑(b7 d b x_1).snd.toNat:Int) x_1 + I) else a6w b [] (↑j:Int) x_1)=a6w b [] (↑j:Int) x_2)∧True)∧True)∧(decide ((↑x_1:Int) < o)=false→∃(x:PUnit),(∃(x:Nat),(x≤E.length∧∀(i:Int),List.Mem i (q9 b E x)→m≤i∧i < a)∧(J=x∧True)∧(J=x∧x=J∧True)∧(E.length=E.length∧(∀(j:Nat),j < E.length→a6w b [] (↑j:Int) x_1=wtL b (q9
 b E x) (↑j:Int))∧True)∧True)∧∀(x_2:Nat),(x_2≤E.length∧∀(i:Int),List.Mem i (q9 b E x_2)→m≤i∧i < a)→(decide ((↑x_2:Int) < a)=true→∃(x_3:Nat),(∃(x:Nat),(x≤E.length∧x_3 < E.length)∧(m=(↑x:Int)∧(-1:Int)=n8 (a07 b (q9 b E x_3)) E x∧True)∧True)∧∀(x_4:Nat),x_4≤E.length∧x_3 < E.length→(decide ((↑x_4:Int) < a)=true→(m≤(↑x_4:Int)∧(↑x_4:Int) < a)∧x_4 < E.length∧(m≤(↑x_4:Int)∧(↑x_4:Int) < a)∧x_4 < E.length∧((wtL b (q9 b E x_2) (↑x_4:Int) ==m)=true→x_2=x_2)∧((wtL b (q9 b E x_2) (↑x_4:Int) ==m)=true→(mkN (b7 m (q9 b E x_2)) x_2).length≤H)∧(decide (n8 (a07 b (q9 b E x_3)) E x_4 < m)=false→(wtL b (q9 b E x_2) (↑x_4:Int) ==m && !b05 (mkN (b7 m (q9 b E x_2)) x_2) (↑x_4:Int))=true→m≤n8 (a07 b (q9 b E x_3)) E x_4∧n8 (a07 b (q9 b E x_3)) E x_4 < a)∧(decide (n8 (a07 b (q9 b E x_3)) E x_4 < m)=false→(wtL b (q9 b E x_2) (↑x_4:Int) ==m && !b05 (mkN (b7 m (q9 b E x_2)) x_2) (↑x_4:Int))=true→(n8 (a07 b (q9 b E x_3)) E x_4).toNat < E.length)∧((wtL b (q9 b E x_2) (↑x_4:Int) ==m && !b05 (mkN (b7 m (q9 b E x_2)) x_2) (↑x_4:Int) && (decide (n8 (a07 b (q9 b E x_3)) E x_4 < m) || decide ((b7 e0 E x_4).ag < (b7 e0 E (n8 (a07 b (q9 b E x_3)) E x_4).toNat).ag)))=true→∃(x:Nat),(x≤E.length∧x_3 < E.length)∧(B.ann x_3).mu x < (B.ann x_3).mu x_4∧(c∧True∧True∧m=m∧a=a∧True∧E.length=E.length∧x_2=x_2∧(↑x_4:Int)=n8 (a07 b (q9 b E x_3)) E x∧c∧b8 E R M=b8 E R M∧false=false∧True∧E.length=E.length∧a=a∧a=a∧c∧s∧c∧t∧a=a∧c∧C∧u∧y=y∧n∧n∧(g7 a (mkN (fun(j:Nat)=>((b7 d b j).fst,(b7 d b j).snd)) e.len) && a30 E.length (wF (f7 (mkN
 (fun(j:Nat)=>((b7 d b j).fst,(b7 d b j).snd)) e.len)) E.length))=(g7 a (mkN (fun(j:Nat)=>((b7 d b j).fst,(b7 d b j).snd)) e.len) && a30 E.length (wF (f7 (mkN (fun(j:Nat)=>((b7 d b j).fst,(b7 d b j).snd)) e.len)) E.length))∧false=false∧a=a∧E.length=E.length∧True∧e.len=e.len∧o=o∧(↑x_1:Int)=(↑x_1:Int)∧false=false∧x_2=x_2∧(↑x_2:Int)=(↑x_2:Int)∧a=a∧true=true∧True∧E.length=E.length∧a=a∧IntKind.i64.wrap ((↑x_4:Int) + I)=(↑x:Int)∧True)∧eqT∧eqA E.length (i6 E)∧eqA R.length (e8 R)∧eqA M.length (i4 M)∧c∧z∧eqP f∧eqP g∧c∧True∧eqP l∧eqA y [Col.int IntKind.i64 G,Col.rows q [u4 (fun(j:Nat)=>(b7 d f j).fst) (fun(j:Nat)=>(b7 d g j).fst) fun(j:Nat)=>(b7 d l j).fst,u4 (fun(j:Nat)=>(b7 d f j).snd) (fun(j:Nat)=>(b7 d g j).snd) fun(j:Nat)=>(b7 d l j).snd]]∧eqP b∧n∧eqA E.length [Col.int IntKind.i64 fun(k:Nat)=>wtL b (q9 b E x_2) (↑k:Int)]∧eqA x_2 (e8 (q9 b E x_2))∧True)∧((wtL b (q9 b E x_2) (↑x_4:Int) ==m && !b05 (mkN (b7 m (q9 b E x_2)) x_2) (↑x_4:Int) && (decide (n8 (a07 b (q9 b E x_3)) E x_4 < m) || decide ((b7 e0 E x_4).ag < (b7 e0 E (n8 (a07 b (q9 b E x_3)) E x_4).toNat).ag)))=false→∃(x:Nat),(x≤E.length∧x_3 < E.length)∧(B.ann x_3).mu x < (B.ann x_3).mu x_4∧(c∧True∧True∧m=m∧a=a∧True∧E.length=E.length∧x_2=x_2∧n8 (a07 b (q9 b E x_3)) E x_4=n8 (a07 b (q9 b E x_3)) E x∧c∧b8 E R M=b8 E R M∧false=false∧True∧E.length=E.length∧a=a∧a=a∧c∧s∧c∧t∧a=a∧c∧C∧u∧y=y∧n∧n∧(g7 a (mkN (fun(j:Nat)=>((b7 d b j).fst,(b7 d b j).snd)) e.len) && a30 E.length (wF (f7 (mkN (fun(j:Nat)=>((b7 d b j).fst,(b7 d b j).snd))
 e.len)) E.length))=(g7 a (mkN (fun(j:Nat)=>((b7 d b j).fst,(b7 d b j).snd)) e.len) && a30 E.length (wF (f7 (mkN (fun(j:Nat)=>((b7 d b j).fst,(b7 d b j).snd)) e.len)) E.length))∧false=false∧a=a∧E.length=E.length∧True∧e.len=e.len∧o=o∧(↑x_1:Int)=(↑x_1:Int)∧false=false∧x_2=x_2∧(↑x_2:Int)=(↑x_2:Int)∧a=a∧true=true∧True∧E.length=E.length∧a=a∧IntKind.i64.wrap ((↑x_4:Int) + I)=(↑x:Int)∧True)∧eqT∧eqA E.length (i6 E)∧eqA R.length (e8 R)∧eqA M.length (i4 M)∧c∧z∧eqP f∧eqP g∧c∧True∧eqP l∧eqA y [Col.int IntKind.i64 G,Col.rows q [u4 (fun(j:Nat)=>(b7 d f j).fst) (fun(j:Nat)=>(b7 d g j).fst) fun(j:Nat)=>(b7 d l j).fst,u4 (fun(j:Nat)=>(b7 d f j).snd) (fun(j:Nat)=>(b7 d g j).snd) fun(j:Nat)=>(b7 d l j).snd]]∧eqP b∧n∧eqA E.length [Col.int IntKind.i64 fun(k:Nat)=>wtL b (q9 b E x_2) (↑k:Int)]∧eqA x_2 (e8 (q9 b E x_2))∧True))∧(decide ((↑x_4:Int) < a)=false→x_2=x_2∧w=w∧(x_2 + w) * (8:Nat)≤(140737488355328:Nat)∧x_2 + w≤(9223372036854775807:Nat)∧∃(x_5:Nat),(∃(x:Nat),(x≤b.length∧x_5 < E.length)∧(m=(↑x:Int)∧True)∧(E.length=E.length∧(∀(j:Nat),j < E.length→wtL b (q9 b E x_2) (↑j:Int)=wtL b (q9 b E x_5) (↑j:Int) - a6x b (n8 (a07 b (q9 b E x_5)) E E.length) (↑j:Int) x)∧True)∧True)∧∀(x_6:Nat),x_6≤b.length∧x_5 < E.length→(decide ((↑x_6:Int) < o)=true→(m≤(↑x_6:Int)∧(↑x_6:Int) < o)∧x_6 < e.len∧(((b7 d b x_6).fst ==n8 (a07 b (q9 b E x_3)) E x_4)=true→(m≤(b7 d b x_6).snd∧(b7 d b x_6).snd < a)∧(b7 d b x_6).snd.toNat < E.length∧(m≤(b7 d b x_6).snd∧(b7 d b x_6).snd < a)∧(b7 d b x_6).snd.toNat <
 E.length∧∃(x:Nat),(x≤b.length∧x_5 < E.length)∧(A.ann x_5).mu x < (A.ann x_5).mu x_6∧(c∧True∧True∧m=m∧a=a∧True∧E.length=E.length∧x_2 + w=x_2 + w∧n8 (a07 b (q9 b E x_3)) E x_4=n8 (a07 b (q9 b E x_3)) E x_4∧c∧b8 E R M=b8 E R M∧false=false∧True∧E.length=E.length∧a=a∧a=a∧c∧s∧c∧t∧a=a∧c∧C∧u∧y=y∧n∧n∧(g7 a (mkN (fun(j:Nat)=>((b7 d b j).fst,(b7 d b j).snd)) e.len) && a30 E.length (wF (f7 (mkN (fun(j:Nat)=>((b7 d b j).fst,(b7 d b j).snd)) e.len)) E.length))=(g7 a (mkN (fun(j:Nat)=>((b7 d b j).fst,(b7 d b j).snd)) e.len) && a30 E.length (wF (f7 (mkN (fun(j:Nat)=>((b7 d b j).fst,(b7 d b j).snd)) e.len)) E.length))∧false=false∧a=a∧E.length=E.length∧True∧e.len=e.len∧o=o∧(↑x_1:Int)=(↑x_1:Int)∧false=false∧(↑x_2:Int)=(↑x_2:Int)∧a=a∧true=true∧True∧E.length=E.length∧a=a∧(↑x_4:Int)=(↑x_4:Int)∧false=false∧n8 (a07 b (q9 b E x_3)) E x_4=n8 (a07 b (q9 b E x_3)) E x_4∧w=w∧x_2 + w=x_2 + w∧True∧e.len=e.len∧o=o∧IntKind.i64.wrap ((↑x_6:Int) + I)=(↑x:Int)∧True)∧eqT∧eqA E.length (i6 E)∧eqA R.length (e8 R)∧eqA M.length (i4 M)∧c∧z∧eqP f∧eqP g∧c∧True∧eqP l∧eqA y [Col.int IntKind.i64 G,Col.rows q [u4 (fun(j:Nat)=>(b7 d f j).fst) (fun(j:Nat)=>(b7 d g j).fst) fun(j:Nat)=>(b7 d l j).fst,u4 (fun(j:Nat)=>(b7 d f j).snd) (fun(j:Nat)=>(b7 d g j).snd) fun(j:Nat)=>(b7 d l j).snd]]∧eqP b∧n∧(E.length=E.length∧(∀(j:Nat),j < E.length→(bif j.beq (b7 d b x_6).snd.toNat then IntKind.i64.wrap (wtL b (q9 b E x_5) (↑(b7 d b x_6).snd.toNat:Int) - a6x b (n8 (a07 b (q9 b E x_5)) E E.length) (↑(b7 d b x_6).snd.toNat:Int) x_6 - I)
 else wtL b (q9 b E x_5) (↑j:Int) - a6x b (n8 (a07 b (q9 b E x_5)) E E.length) (↑j:Int) x_6)=wtL b (q9 b E x_5) (↑j:Int) - a6x b (n8 (a07 b (q9 b E x_5)) E E.length) (↑j:Int) x)∧True)∧eqA (x_2 + w) [Col.int IntKind.i64 fun(j:Nat)=>bif j.blt x_2 then b7 m (q9 b E x_2) j else g8 [n8 (a07 b (q9 b E x_3)) E x_4] (j - x_2)]∧eqA w [Col.int IntKind.i64 (g8 [n8 (a07 b (q9 b E x_3)) E x_4])]∧True)∧(((b7 d b x_6).fst ==n8 (a07 b (q9 b E x_3)) E x_4)=false→∃(x:Nat),(x≤b.length∧x_5 < E.length)∧(A.ann x_5).mu x < (A.ann x_5).mu x_6∧(c∧True∧True∧m=m∧a=a∧True∧E.length=E.length∧x_2 + w=x_2 + w∧n8 (a07 b (q9 b E x_3)) E x_4=n8 (a07 b (q9 b E x_3)) E x_4∧c∧b8 E R M=b8 E R M∧false=false∧True∧E.length=E.length∧a=a∧a=a∧c∧s∧c∧t∧a=a∧c∧C∧u∧y=y∧n∧n∧(g7 a (mkN (fun(j:Nat)=>((b7 d b j).fst,(b7 d b j).snd)) e.len) && a30 E.length (wF (f7 (mkN (fun(j:Nat)=>((b7 d b j).fst,(b7 d b j).snd)) e.len)) E.length))=(g7 a (mkN (fun(j:Nat)=>((b7 d b j).fst,(b7 d b j).snd)) e.len) && a30 E.length (wF (f7 (mkN (fun(j:Nat)=>((b7 d b j).fst,(b7 d b j).snd)) e.len)) E.length))∧false=false∧a=a∧E.length=E.length∧True∧e.len=e.len∧o=o∧(↑x_1:Int)=(↑x_1:Int)∧false=false∧(↑x_2:Int)=(↑x_2:Int)∧a=a∧true=true∧True∧E.length=E.length∧a=a∧(↑x_4:Int)=(↑x_4:Int)∧false=false∧n8 (a07 b (q9 b E x_3)) E x_4=n8 (a07 b (q9 b E x_3)) E x_4∧w=w∧x_2 + w=x_2 + w∧True∧e.len=e.len∧o=o∧IntKind.i64.wrap ((↑x_6:Int) + I)=(↑x:Int)∧True)∧eqT∧eqA E.length (i6 E)∧eqA R.length (e8 R)∧eqA M.length (i4 M)∧c∧z∧eqP f∧eqP g∧c∧True∧eqP l∧eqA y [Col.int
 IntKind.i64 G,Col.rows q [u4 (fun(j:Nat)=>(b7 d f j).fst) (fun(j:Nat)=>(b7 d g j).fst) fun(j:Nat)=>(b7 d l j).fst,u4 (fun(j:Nat)=>(b7 d f j).snd) (fun(j:Nat)=>(b7 d g j).snd) fun(j:Nat)=>(b7 d l j).snd]]∧eqP b∧n∧(E.length=E.length∧(∀(j:Nat),j < E.length→wtL b (q9 b E x_5) (↑j:Int) - a6x b (n8 (a07 b (q9 b E x_5)) E E.length) (↑j:Int) x_6=wtL b (q9 b E x_5) (↑j:Int) - a6x b (n8 (a07 b (q9 b E x_5)) E E.length) (↑j:Int) x)∧True)∧eqA (x_2 + w) [Col.int IntKind.i64 fun(j:Nat)=>bif j.blt x_2 then b7 m (q9 b E x_2) j else g8 [n8 (a07 b (q9 b E x_3)) E x_4] (j - x_2)]∧eqA w [Col.int IntKind.i64 (g8 [n8 (a07 b (q9 b E x_3)) E x_4])]∧True))∧(decide ((↑x_6:Int) < o)=false→∃(x_7:Nat),(x_7≤E.length∧∀(i:Int),List.Mem i (q9 b E x_7)→m≤i∧i < a)∧(D.ann x).mu x_7 < (D.ann x).mu x_2∧(c∧True∧True∧m=m∧a=a∧True∧E.length=E.length∧x_2 + w=x_7∧c∧b8 E R M=b8 E R M∧false=false∧True∧E.length=E.length∧a=a∧a=a∧c∧s∧c∧t∧a=a∧c∧C∧u∧y=y∧n∧n∧(g7 a (mkN (fun(j:Nat)=>((b7 d b j).fst,(b7 d b j).snd)) e.len) && a30 E.length (wF (f7 (mkN (fun(j:Nat)=>((b7 d b j).fst,(b7 d b j).snd)) e.len)) E.length))=(g7 a (mkN (fun(j:Nat)=>((b7 d b j).fst,(b7 d b j).snd)) e.len) && a30 E.length (wF (f7 (mkN (fun(j:Nat)=>((b7 d b j).fst,(b7 d b j).snd)) e.len)) E.length))∧false=false∧a=a∧E.length=E.length∧True∧e.len=e.len∧o=o∧(↑x_1:Int)=(↑x_1:Int)∧false=false∧True)∧eqT∧eqA E.length (i6 E)∧eqA R.length (e8 R)∧eqA M.length (i4 M)∧c∧z∧eqP f∧eqP g∧c∧True∧eqP l∧eqA y [Col.int IntKind.i64 G,Col.rows q [u4 (fun(j:Nat)=>(b7 d f j).fst)
 (fun(j:Nat)=>(b7 d g j).fst) fun(j:Nat)=>(b7 d l j).fst,u4 (fun(j:Nat)=>(b7 d f j).snd) (fun(j:Nat)=>(b7 d g j).snd) fun(j:Nat)=>(b7 d l j).snd]]∧eqP b∧n∧(E.length=E.length∧(∀(j:Nat),j < E.length→wtL b (q9 b E x_5) (↑j:Int) - a6x b (n8 (a07 b (q9 b E x_5)) E E.length) (↑j:Int) x_6=wtL b (q9 b E x_7) (↑j:Int))∧True)∧(x_2 + w=x_7∧(∀(j:Nat),j < x_7→(bif j.blt x_2 then b7 m (q9 b E x_2) j else g8 [n8 (a07 b (q9 b E x_3)) E x_4] (j - x_2))=b7 m (q9 b E x_7) j)∧True)∧True)))∧(decide ((↑x_2:Int) < a)=false→E.length=E.length∧R.length=R.length∧M.length=M.length∧nE E∧nI R∧nR M∧x_2=x_2∧(((mkN (b7 m (q9 b E x_2)) x_2).length≤(64:Nat)∧R.length=E.length∧M.length≤(8:Nat))∧(∀(r:List Int),List.Mem r M→r.length≤H)∧∀(i:Int),List.Mem i (mkN (b7 m (q9 b E x_2)) x_2)→m≤i∧i < a)∧m=a2f E R M∧((arE E (mkN (b7 m (q9 b E x_2)) x_2)).length=h.length∧(arE E (mkN (b7 m (q9 b E x_2)) x_2)).length=h.length∧(∀(j:Nat),j < h.length→(b7 e0 (arE E (mkN (b7 m (q9 b E x_2)) x_2)) j).ag=(b7 e0 h j).ag)∧(∀(j:Nat),j < h.length→(b7 e0 (arE E (mkN (b7 m (q9 b E x_2)) x_2)) j).ix=(b7 e0 h j).ix)∧(∀(j:Nat),j < h.length→(b7 e0 (arE E (mkN (b7 m (q9 b E x_2)) x_2)) j).k=(b7 e0 h j).k)∧(∀(j:Nat),j < h.length→(b7 e0 (arE E (mkN (b7 m (q9 b E x_2)) x_2)) j).ob=(b7 e0 h j).ob)∧(∀(j:Nat),j < h.length→(b7 e0 (arE E (mkN (b7 m (q9 b E x_2)) x_2)) j).mu=(b7 e0 h j).mu)∧(∀(j:Nat),j < h.length→(b7 e0 (arE E (mkN (b7 m (q9 b E x_2)) x_2)) j).en=(b7 e0 h j).en)∧(∀(j:Nat),j < h.length→(b7 e0 (arE E (mkN (b7 m (q9 b E x_2)) x_2))
 j).od=(b7 e0 h j).od)∧(∀(j:Nat),j < h.length→(b7 e0 (arE E (mkN (b7 m (q9 b E x_2)) x_2)) j).rd=(b7 e0 h j).rd)∧(∀(j:Nat),j < h.length→(b7 e0 (arE E (mkN (b7 m (q9 b E x_2)) x_2)) j).wr=(b7 e0 h j).wr)∧True)∧((arR R (mkN (b7 m (q9 b E x_2)) x_2)).length=v.length∧(arR R (mkN (b7 m (q9 b E x_2)) x_2)).length=v.length∧(∀(j:Nat),j < v.length→b7 m (arR R (mkN (b7 m (q9 b E x_2)) x_2)) j=b7 m v j)∧True)∧(arM M (mkN (b7 m (q9 b E x_2)) x_2)).length=p.length∧(arM M (mkN (b7 m (q9 b E x_2)) x_2)).length=p.length∧((∀(j:Nat),j < p.length→(b7 [] (arM M (mkN (b7 m (q9 b E x_2)) x_2)) j).length=(b7 [] p j).length)∧(∀(j:Nat),j < p.length→∀(i:Nat),i < (b7 [] p j).length→b7 m (b7 [] (arM M (mkN (b7 m (q9 b E x_2)) x_2)) j) i=b7 m (b7 [] p j) i)∧True)∧True)))
theorem k20 (E:List Ev) (R:List Int) (M:List (List Int)) (h:SzG E M) (hv:b8 E R M=true):c9h E R M:=by
 obtain⟨hG,hN⟩:=a0g hv h
 obtain⟨hM,hR⟩:=a14 hv
 have hcv:g7 E.length (s7 (a17 E.length (poG E R M) (rfG E R M) (j7 E R M)) (a17 E.length (poG E R M) (rfG E R M) (j7 E R M)).length)=true:=(b34 _ _ _ hN).1.2
 have hsup:=b9f hcv
 rw[z0s] at hsup
 have hPv:g7 E.length (d9 E R M)=true:=a8j _ hN
 have hPl:(d9 E R M).length≤4096:=b8x _ hN
 have hao:a8o E.length (d9 E R M)=true→Ord E.length (d9 E R M):=fun ha=>b7r hsup ha
 have hin:∀ j,j < (d9 E R M).length→(0≤(b7 (0,0) (d9 E R M) j).2∧(b7 (0,0) (d9 E R M) j).2 < E.length):=fun j hj=>by
  have:=(a0f.1 hPv).2.2 (b7 (0,0) (d9 E R M) j) (by rw[m7 _ _ _ hj]; exact z1v hj)
  exact this.2.2
 unfold c9h
 simp only[eq_self,true_and,and_true,z0o,imp_self,o6,o8,p7,i7,i9,PLoop.of,s8,AV.len,j4,z0u,l4,l5,l6,m8,m9,n5,lN1,lN2,lN3,lN4,d2a,b8o,hPv,z0y]
 have hacy:a30 E.length (wF (f7 (d9 E R M)) E.length)=a8o E.length (d9 E R M):=rfl
 have hok:s6 E R M=a8o E.length (d9 E R M):=by simp[s6,hv]
 have her:a2f E R M=bif a8o E.length (d9 E R M) then 0 else 20:=by simp[a2f,hv]
 rw[hacy,hok,her]
 have hO:w8 E R M=q9 (d9 E R M) E E.length:=rfl
 rw[hO]
 generalize d9 E R M=P at *
 refine⟨by omega,⟨by omega,hR⟩,by omega,hN,by omega,fun ha=>?_,fun ha=>?_⟩
 ·have ha:a8o E.length P=false:=by simpa using ha
  rw[ha]
  exact⟨rfl,rfl,rfl,rfl⟩
 have ha:a8o E.length P=true:=by simpa using ha
 have ho:=hao ha
 rw[ha]
 simp only[d5,z0f]
 refine⟨by omega,by omega,by omega,(),⟨0,by omega,rfl,fun _ _=>rfl⟩,fun j hj=>⟨fun hlj=>?_,fun hlj=>?_⟩⟩
 ·have hj2:j < P.length:=by have:=z0e hlj; omega
  have hi:=hin j hj2
  have hn:=a10 hi
  refine⟨⟨by omega,by omega⟩,hj2,hi,hn,hi,hn,j + 1,by omega,by omega,wrS (n:=P.length) hj2 (by omega),fun k hk=>?_⟩
  have hle:=b9k P [] k j
  simp only[a6w]
  have e:((b7 (0,0) P j).2 == (k:Int) && !([]:List Int).contains (b7 (0,0) P j).1)=Nat.beq k (b7 (0,0) P j).2.toNat:=by
   rw[z2j]
   simp only[List.contains_nil,z2z,z1r,beq_iff_eq,Nat.beq_eq]
   omega
  rw[e]
  cases hb:Nat.beq k (b7 (0,0) P j).2.toNat
  ·rfl
  ·have:=z0b hb
   rw[z0f,z0f,← this]
   exact a4x (by omega) (by omega)
 have hj2:j=P.length:=by have:=z0i hlj; omega
 subst hj2
 refine⟨(),⟨0,⟨by omega,fun i hi=>by cases hi⟩,rfl,⟨rfl,rfl⟩,fun _ _=>rfl⟩,fun s hs=>⟨fun hls=>?_,fun hls=>?_⟩⟩
 ·have hs2:s < E.length:=by have:=z0e hls; omega
  have hlen:=a34 P E s
  have hbst:=ho.best (L:=q9 P E s) (by omega)
  refine⟨s,⟨0,⟨by omega,hs2⟩,rfl,rfl⟩,fun i hi=>⟨fun hli=>?_,fun hli=>?_⟩⟩
  ·have hi2:i < E.length:=by have:=z0e hli; omega
   have hb:=a7o (a07 P (q9 P E s)) E i
   have hw:=wrS (n:=E.length) hi2 (by omega)
   have hin2:decide (n8 (a07 P (q9 P E s)) E i < 0)=false→0≤n8 (a07 P (q9 P E s)) E i∧n8 (a07 P (q9 P E s)) E i < E.length:=fun h1=>by
    have:=z0i h1; omega
   have e:n8 (a07 P (q9 P E s)) E (i + 1)=bif (wtL P (q9 P E s) i == 0 && !b05 (q9 P E s) i) && (decide (n8 (a07 P (q9 P E s)) E i < 0) || decide ((b7 e0 E i).ag < (b7 e0 E (n8 (a07 P (q9 P E s)) E i).toNat).ag)) then(i:Int) else n8 (a07 P (q9 P E s)) E i:=rfl
   refine⟨⟨by omega,by omega⟩,hi2,⟨by omega,by omega⟩,hi2,fun _=>by omega,fun h1 _=>hin2 h1,fun h1 _=>a10 (hin2 h1),fun hc=>⟨i + 1,⟨by omega,hs2⟩,by omega,?_,hw⟩,fun hc=>⟨i + 1,⟨by omega,hs2⟩,by omega,?_,hw⟩⟩
   ·rw[e,hc]; rfl
   ·rw[e,hc]; rfl
  ·have hi2:i=E.length:=by have:=z0i hli; omega
   subst hi2
   refine⟨by omega,by omega,s,⟨0,⟨by omega,hs2⟩,rfl,fun k _=>by simp[a6x]⟩,fun q hq=>⟨fun hlq=>?_,fun hlq=>?_⟩⟩
   ·have hq2:q < P.length:=by have:=z0e hlq; omega
    have hi:=hin q hq2
    have hn:=a10 hi
    have hw:=wrS (n:=P.length) hq2 (by omega)
    refine⟨⟨by omega,by omega⟩,hq2,fun hc=>⟨hi,hn,hi,hn,q + 1,⟨by omega,hs2⟩,by omega,hw,fun k hk=>?_⟩,fun hc=>⟨q + 1,⟨by omega,hs2⟩,by omega,hw,fun k hk=>?_⟩⟩
    ·have h1:=b9k P (q9 P E s) k P.length
     have h2:=d1l P (n8 (a07 P (q9 P E s)) E E.length) k q
     simp only[a6x,hc,z1r]
     have e:((b7 (0,0) P q).2 == (k:Int))=Nat.beq k (b7 (0,0) P q).2.toNat:=by
      rw[z2j]
      simp only[beq_iff_eq,Nat.beq_eq]
      omega
     rw[e]
     cases hb:Nat.beq k (b7 (0,0) P q).2.toNat
     ·rfl
     ·have:=z0b hb
      rw[z0f,z0f,← this,a4x (by unfold wtL; omega) (by unfold wtL; omega)]
      omega
    ·simp only[a6x,hc,z3h,z0l]
   ·have hq2:q=P.length:=by have:=z0i hlq; omega
    subst hq2
    refine⟨s + 1,⟨by omega,fun i hi=>(ho.list (s:=s + 1) (by omega)).1 i hi⟩,by omega,rfl,fun k _=>?_,rfl,fun k hk=>?_⟩
    ·exact(c7k hbst.2.2 k P.length).symm
    ·have e:q9 P E (s + 1)=q9 P E s ++ [n8 (a07 P (q9 P E s)) E E.length]:=rfl
     rw[e]
     cases hb:Nat.blt k s
     ·obtain rfl:=a9e hb hk
      rw[z0l]
      have:=b0o (0:Int) (l:=q9 P E k) (x:=n8 (a07 P (q9 P E k)) E E.length)
      rw[a34] at this
      rw[this]; rfl
     ·rw[z0f,a73 (0:Int) (by rw[a34]; rwa [z0x] at hb)]
 ·have hs2:s=E.length:=by have:=z0i hls; omega
  subst hs2
  refine⟨⟨⟨by rw[a34]; exact hN,hR,hM⟩,h.2 hM,hs.2⟩,?_⟩
  simp only[z0o,and_self,true_and,and_true]
theorem fo20:s5 Tryz.prog 20:=⟨Tryz.f20,Tryz.func20,by kernel_rfl,by kernel_rfl⟩
def q20D (E:List Ev) (R:List Int) (M:List (List Int)):Prop:=s4 (({ g:=true,calls:=[a5d (nmT E R M),kRl 55 (b6h pgE poG) (nmT E R M),kRl 61 (b6h pgR rfG) (nmT E R M),d6r,kCol (nmT E R M),kPre E R M,kAcy [],kCon [],kArr (nmT E R M)],loops:=[(0,.of (lN1 E.length (d9 E R M) 42 17)),(2,.of (lN2 E (d9 E R M) 9 18 17)),(4,lN3 E (d9 E R M) 61 10),(6,lN4 E (d9 E R M) 101 17)],takes:=[(5,e1o 5 36)] }:Kit)).tab Tryz.f20 [b2r E R M] (grT E R M) ((c2w E R M).post EL)
theorem d8j (E:List Ev) (R:List Int) (M:List (List Int)):q20D E R M=(
 let a:=E.length=E.length∧c9h E R M
 some tbl=some tbl∧E.length=E.length∧R.length=R.length∧M.length=M.length∧nE E∧nI R∧nR M∧(E.length≤(1099511627776:Nat)∧(M.length≤(8:Nat)→∀(r:List Int),List.Mem r M→r.length≤(1099511627776:Nat)))∧((!b8 E R M)=true→(1:Int)=a2f E R M∧(d5 (s6 E R M) (arE E (w8 E R M))).length=(0:Nat)∧(d5 (s6 E R M) (arR R (w8 E R M))).length=(0:Nat)∧(d5 (s6 E R M) (arM M (w8 E R M))).length=(0:Nat))∧((!b8 E R M)=false→a∧a∧E.length=E.length∧c9h E R M)):=by kernel_rfl
theorem v20 (E:List Ev) (R:List Int) (M:List (List Int)) (h:SzG E M):q20D E R M:=by
 rw[d8j]
 cases hv:b8 E R M
 ·simp only[eq_self,true_and,and_true,z0o,imp_self,o6,o8,p7,i7,i9,PLoop.of,s8,AV.len,j4,z0u,l4,l5,l6,m8,m9,n5,a2f,s6,hv,d5,z0l,Bool.false_and,z2z,z3o]
  exact⟨⟨h.1,h.2⟩,by simp⟩
 ·have hk:=k20 E R M h hv
  simp only[eq_self,true_and,and_true,z0o,imp_self,o6,o8,p7,i7,i9,PLoop.of,s8,AV.len,j4,z0u,l4,l5,l6,m8,m9,n5,hk,z3j]
  exact⟨⟨h.1,h.2⟩,by simp⟩
theorem n20 (nm:List (Option AV)):CallOk Tryz.prog GL 20 (q6 EL gbT nm [PG] d0j):=a5i Tryz.func20 fo20 fun av pre rv h=>by
 unfold d0j at h; split at h <;> cases h
 exact⟨⟨rfl,fun t a e=>by cases e <;> exact z0h _ _⟩,fun hp=>⟨_,v20 _ _ _ (hp _ (.head _)),rfl,(o5 (n33 _) (o5 (a1n (n55 _)) (o5 (a1n (n61 _)) (o5 (a1n n57) (o5 (a1n (n56 _)) (o5 (a1n (nPre _ _ _)) (o5 (a1n (n63 _)) (o5 (a1n (n64 _)) (o5 (a1n (n65 _)) v4))))))))),v5⟩⟩
def a8r (E:List Ev) (R:List Int) (M:List (List Int)) (E':List Ev) (R':List Int) (M':List (List Int)):List (Option AV):=[none,some (.es E),some (.is R),some (.rs M),some (.es E'),some (.is R'),some (.rs M')]
def b0e (E:List Ev) (R:List Int) (M:List (List Int)) (E':List Ev) (R':List Int) (M':List (List Int)):List MBlk:=[tbl,.arr E.length (i6 E),.arr R.length (e8 R),.arr M.length (i4 M),.arr E'.length (i6 E'),.arr R'.length (e8 R'),.arr M'.length (i4 M')]
def c8e (E':List Ev) (R':List Int) (M':List (List Int)):SV:=.agg [.sl 4 E'.length,.sl 5 R'.length,.sl 6 M'.length]
def noE (E:List Ev) (R:List Int) (M:List (List Int)):List Ev:=d5 (s6 E R M) (arE E (w8 E R M))
def noR (E:List Ev) (R:List Int) (M:List (List Int)):List Int:=d5 (s6 E R M) (arR R (w8 E R M))
def noM (E:List Ev) (R:List Int) (M:List (List Int)):List (List Int):=d5 (s6 E R M) (arM M (w8 E R M))
def a0h (E:List Ev) (R:List Int) (M:List (List Int)) (E':List Ev) (R':List Int) (M':List (List Int)):Int:=
 bif a2f E R M != 0 then(bif a2f E' R' M' != 0 then 0 else -1) else bif a2f E' R' M' != 0 then 1
 else orF [o9 a51 (noE E R M) (noE E' R' M'),o9 j5 (noR E R M) (noR E' R' M'),a7j (noM E R M) (noM E' R' M')]
def c8z (E:List Ev) (R:List Int) (M:List (List Int)) (E':List Ev) (R':List Int) (M':List (List Int)):List (Option AV):=a8r E R M E' R' M' ++ [none,none,some (.es (noE E R M)),some (.is (noR E R M)),some (.rs (noM E R M)),none,some (.es (noE E' R' M')),some (.is (noR E' R' M')),some (.rs (noM E' R' M'))]
def d0e:SpP:=fun
 | [.ag [.es E,.is R,.rs M],.ag [.es E',.is R',.rs M']]=>some ([SzG E M,SzG E' M'],plI (a0h E R M E' R' M'))
 | _=>none
def c8g (nm:List (Option AV)):Nat × (List MBlk→List SV→Option AR):=(42,q6 EL gbT nm [PG,PG] d0e)
end Go.Proofs.YtaeeaniofljmnaaGreatDoor

/-
  A part of the proof (N46a).
-/
import Derived.Test.YtaeeaniofljmnaaGreatDoorNN
namespace Go.Proofs.YtaeeaniofljmnaaGreatDoor
set_option linter.unusedSimpArgs false
set_option linter.unusedVariables false
open Go Go.Proofs.YtaeeaniofljmnaaGreatDoor.Sx
set_option maxRecDepth 100000
theorem fo64:o8 Tryz.prog 64:=⟨Tryz.f64,Tryz.func64,by kernel_rfl,by kernel_rfl⟩
def q64D (l:List Int) (x:Int):Prop:=n9 (({ calls:=[kPos 121 []] }:Kit)).tab Tryz.f64 [.sl 0 l.length,.i .i64 x] [.arr l.length (j6 l)] (l8 (.b (a8y l x)))
theorem d5q (l:List Int) (x:Int):q64D l x=(l.length=l.length∧(mkN (b8 (0:Int) l) l.length).length≤(1099511627776:Nat)∧decide (a75 (mkN (b8 (0:Int) l) l.length) x ≥ (0:Int))=a8y l x):=by kernel_rfl
theorem v64 (l:List Int) (x:Int) (h:L40 l.length):q64D l x:=by
 rw[d5q]
 simp only[eq_self,true_and,and_true,z0p,imp_self,m5,n5,o0,g8,i9,PLoop.of,s5,AV.len,j5,z0v,j8,l5,l6,m6,m7,m8,a8y]
 first | exact h | simpa using h
theorem n64 (nm:List (Option AV)):CallOk Tryz.prog [] 64 (n8 EL none nm [.lf .is,.lf .i] d48):=y5 Tryz.func64 fo64 fun av pre rv h=>by
 unfold d48 at h; split at h <;> cases h
 exact⟨⟨rfl,fun t a e=>by cases e <;> exact z0k _ _⟩,fun hp=>⟨_,v64 _ _ (hp _ (.head _)),rfl,(m9 (n121 _) v4),v5⟩⟩
theorem nPre (E:List Ev) (R:List Int) (M:List (List Int)):CallOk Tryz.prog [] 54 (n8 EL none [] [.lf .i,.lf .rl] (d4e E R M)):=y5 Tryz.func54 fo54 fun av pre rv h=>by
 unfold d4e at h; split at h <;> cases h
 refine⟨⟨rfl,fun t a e=>by cases e <;> exact z0k _ _⟩,fun hp=>?_⟩
 obtain⟨⟨h1,h2⟩,h3⟩:=hp _ (.head _)
 subst h1 h3
 exact⟨_,v54 _ _ (b1p _ _ _ h2),rfl,m9 (n110 _) v4,v5⟩
def c79 (E:List Ev) (R:List Int) (M:List (List Int)):Prop:=
 let a:=(↑E.length:Int)
 let b:=d7 E R M
 let c:=E.length=E.length∧R.length=R.length∧M.length=M.length
 let d:=((0:Int),(0:Int))
 let e:=AV.ps b
 let f:=b9 a (poG E R M)
 let g:=b9 a (rfG E R M)
 let h:=i5 (o6 E R M) (arE E (v8 E R M))
 let l:=b9 a (f9 E R M)
 let m:=(0:Int)
 let n:=a=a∧e.len=e.len
 let o:=(↑e.len:Int)
 let p:=i5 (o6 E R M) (arM M (v8 E R M))
 let q:=s6 (AV.ps f).len (AV.ps g).len (AV.ps l).len
 let s:=a=a∧(AV.ps f).len=(AV.ps f).len
 let t:=a=a∧(AV.ps g).len=(AV.ps g).len
 let u:=a=a∧(AV.ps l).len=(AV.ps l).len
 let v:=i5 (o6 E R M) (arR R (v8 E R M))
 let w:=(1:Nat)
 let y:=(3:Nat)
 let z:=True∧True∧True
 let A:=lN4 E b (101:Nat) (17:Nat)
 let B:=lN3 E b (61:Nat) (10:Nat)
 let C:=True∧True
 let D:=PLoop.of (lN2 E b (9:Nat) (18:Nat) (17:Nat))
 let F:=PLoop.of (lN1 E.length b (42:Nat) (17:Nat))
 let G:=s6 a a a
 let H:=(1099511627776:Nat)
 let I:=(1:Int)
 let J:=(0:Nat)
 R.length=R.length∧M.length=M.length∧nE E∧nI R∧nR M∧a≤(64:Int)∧E.length=E.length∧R.length=R.length∧M.length=M.length∧nE E∧nI R∧nR M∧(a≤(64:Int)∧R.length=E.length)∧E.length=E.length∧R.length=R.length∧M.length=M.length∧nE E∧nI R∧nR M∧(a=a∧a≤(64:Int))∧(AV.ps f).len=(AV.ps f).len∧(AV.ps g).len=(AV.ps g).len∧(AV.ps l).len=(AV.ps l).len∧y=y∧((a=a∧E.length≤(64:Nat))∧mkN (fun(j:Nat)=>(s6 a a a j,mkN (fun(i:Nat)=>(s6 (fun(j:Nat)=>(b8 d f j).fst) (fun(j:Nat)=>(b8 d g j).fst) (fun(j:Nat)=>(b8 d l j).fst) j i,s6 (fun(j:Nat)=>(b8 d f j).snd) (fun(j:Nat)=>(b8 d g j).snd) (fun(j:Nat)=>(b8 d l j).snd) j i)) (s6 (AV.ps f).len (AV.ps g).len (AV.ps l).len j))) y=a0g E.length (poG E R M) (rfG E R M) (f9 E R M))∧e.len=e.len∧(mkN (fun(j:Nat)=>((b8 d b j).fst,(b8 d b j).snd)) e.len).length≤H∧((!(d9 a (mkN (fun(j:Nat)=>((b8 d b j).fst,(b8 d b j).snd)) e.len) && a28 E.length (wF (e9 (mkN (fun(j:Nat)=>((b8 d b j).fst,(b8 d b j).snd)) e.len)) E.length)))=true→(20:Int)=a3b E R M∧h.length=J∧v.length=J∧p.length=J)∧((!(d9 a (mkN (fun(j:Nat)=>((b8 d b j).fst,(b8 d b j).snd)) e.len) && a28 E.length (wF (e9 (mkN (fun(j:Nat)=>((b8 d b j).fst,(b8 d b j).snd)) e.len)) E.length)))=false→m≤a∧a=a∧(↑(8:Nat):Int) * a≤(281474976710656:Int)∧a≤(9223372036854775807:Int)∧∃(x:PUnit),(∃(x:Nat),(x≤b.length∧True)∧(m=(↑x:Int)∧True)∧(E.length=E.length∧(∀(j:Nat),j < E.length→m=a5s b [] (↑j:Int) x)∧True)∧True)∧∀(x_1:Nat),x_1≤b.length∧True→(decide ((↑x_1:Int) < o)=true→(m≤(↑x_1:Int)∧(↑x_1:Int) < o)∧x_1 < e.len∧(m≤(b8 d b
 x_1).snd∧(b8 d b x_1).snd < a)∧(b8 d b x_1).snd.toNat < E.length∧(m≤(b8 d b x_1).snd∧(b8 d b x_1).snd < a)∧(b8 d b x_1).snd.toNat < E.length∧∃(x_2:Nat),(x_2≤b.length∧True)∧(F.ann x).mu x_2 < (F.ann x).mu x_1∧(c∧True∧True∧m=m∧a=a∧True∧E.length=E.length∧c∧d6 E R M=d6 E R M∧false=false∧True∧E.length=E.length∧a=a∧a=a∧c∧s∧c∧t∧a=a∧c∧C∧u∧y=y∧n∧n∧(d9 a (mkN (fun(j:Nat)=>((b8 d b j).fst,(b8 d b j).snd)) e.len) && a28 E.length (wF (e9 (mkN (fun(j:Nat)=>((b8 d b j).fst,(b8 d b j).snd)) e.len)) E.length))=(d9 a (mkN (fun(j:Nat)=>((b8 d b j).fst,(b8 d b j).snd)) e.len) && a28 E.length (wF (e9 (mkN (fun(j:Nat)=>((b8 d b j).fst,(b8 d b j).snd)) e.len)) E.length))∧false=false∧a=a∧E.length=E.length∧True∧e.len=e.len∧o=o∧IntKind.i64.wrap ((↑x_1:Int) + I)=(↑x_2:Int)∧True)∧eqT∧eqA E.length (g9 E)∧eqA R.length (j6 R)∧eqA M.length (l4 M)∧c∧z∧eqP f∧eqP g∧c∧True∧eqP l∧eqA y [Col.int IntKind.i64 G,Col.rows q [s6 (fun(j:Nat)=>(b8 d f j).fst) (fun(j:Nat)=>(b8 d g j).fst) fun(j:Nat)=>(b8 d l j).fst,s6 (fun(j:Nat)=>(b8 d f j).snd) (fun(j:Nat)=>(b8 d g j).snd) fun(j:Nat)=>(b8 d l j).snd]]∧eqP b∧n∧(E.length=E.length∧(∀(j:Nat),j < E.length→(bif j.beq (b8 d b x_1).snd.toNat then IntKind.i64.wrap (a5s b [] (↑(b8 d b x_1).snd.toNat:Int) x_1 + I) else a5s b [] (↑j:Int) x_1)=a5s b [] (↑j:Int) x_2)∧True)∧True)∧(decide ((↑x_1:Int) < o)=false→∃(x:PUnit),(∃(x:Nat),(x≤E.length∧∀(i:Int),List.Mem i (n6 b E x)→m≤i∧i < a)∧(J=x∧True)∧(J=x∧x=J∧True)∧(E.length=E.length∧(∀(j:Nat),j < E.length→a5s b [] (↑j:Int) x_1=wtL b (n6
 b E x) (↑j:Int))∧True)∧True)∧∀(x_2:Nat),(x_2≤E.length∧∀(i:Int),List.Mem i (n6 b E x_2)→m≤i∧i < a)→(decide ((↑x_2:Int) < a)=true→∃(x_3:Nat),(∃(x:Nat),(x≤E.length∧x_3 < E.length)∧(m=(↑x:Int)∧(-1:Int)=p8 (y6 b (n6 b E x_3)) E x∧True)∧True)∧∀(x_4:Nat),x_4≤E.length∧x_3 < E.length→(decide ((↑x_4:Int) < a)=true→(m≤(↑x_4:Int)∧(↑x_4:Int) < a)∧x_4 < E.length∧(m≤(↑x_4:Int)∧(↑x_4:Int) < a)∧x_4 < E.length∧((wtL b (n6 b E x_2) (↑x_4:Int) ==m)=true→x_2=x_2)∧((wtL b (n6 b E x_2) (↑x_4:Int) ==m)=true→(mkN (b8 m (n6 b E x_2)) x_2).length≤H)∧(decide (p8 (y6 b (n6 b E x_3)) E x_4 < m)=false→(wtL b (n6 b E x_2) (↑x_4:Int) ==m && !a8y (mkN (b8 m (n6 b E x_2)) x_2) (↑x_4:Int))=true→m≤p8 (y6 b (n6 b E x_3)) E x_4∧p8 (y6 b (n6 b E x_3)) E x_4 < a)∧(decide (p8 (y6 b (n6 b E x_3)) E x_4 < m)=false→(wtL b (n6 b E x_2) (↑x_4:Int) ==m && !a8y (mkN (b8 m (n6 b E x_2)) x_2) (↑x_4:Int))=true→(p8 (y6 b (n6 b E x_3)) E x_4).toNat < E.length)∧((wtL b (n6 b E x_2) (↑x_4:Int) ==m && !a8y (mkN (b8 m (n6 b E x_2)) x_2) (↑x_4:Int) && (decide (p8 (y6 b (n6 b E x_3)) E x_4 < m) || decide ((b8 e0 E x_4).ag < (b8 e0 E (p8 (y6 b (n6 b E x_3)) E x_4).toNat).ag)))=true→∃(x:Nat),(x≤E.length∧x_3 < E.length)∧(B.ann x_3).mu x < (B.ann x_3).mu x_4∧(c∧True∧True∧m=m∧a=a∧True∧E.length=E.length∧x_2=x_2∧(↑x_4:Int)=p8 (y6 b (n6 b E x_3)) E x∧c∧d6 E R M=d6 E R M∧false=false∧True∧E.length=E.length∧a=a∧a=a∧c∧s∧c∧t∧a=a∧c∧C∧u∧y=y∧n∧n∧(d9 a (mkN (fun(j:Nat)=>((b8 d b j).fst,(b8 d b j).snd)) e.len) && a28 E.length (wF (e9 (mkN
 (fun(j:Nat)=>((b8 d b j).fst,(b8 d b j).snd)) e.len)) E.length))=(d9 a (mkN (fun(j:Nat)=>((b8 d b j).fst,(b8 d b j).snd)) e.len) && a28 E.length (wF (e9 (mkN (fun(j:Nat)=>((b8 d b j).fst,(b8 d b j).snd)) e.len)) E.length))∧false=false∧a=a∧E.length=E.length∧True∧e.len=e.len∧o=o∧(↑x_1:Int)=(↑x_1:Int)∧false=false∧x_2=x_2∧(↑x_2:Int)=(↑x_2:Int)∧a=a∧true=true∧True∧E.length=E.length∧a=a∧IntKind.i64.wrap ((↑x_4:Int) + I)=(↑x:Int)∧True)∧eqT∧eqA E.length (g9 E)∧eqA R.length (j6 R)∧eqA M.length (l4 M)∧c∧z∧eqP f∧eqP g∧c∧True∧eqP l∧eqA y [Col.int IntKind.i64 G,Col.rows q [s6 (fun(j:Nat)=>(b8 d f j).fst) (fun(j:Nat)=>(b8 d g j).fst) fun(j:Nat)=>(b8 d l j).fst,s6 (fun(j:Nat)=>(b8 d f j).snd) (fun(j:Nat)=>(b8 d g j).snd) fun(j:Nat)=>(b8 d l j).snd]]∧eqP b∧n∧eqA E.length [Col.int IntKind.i64 fun(k:Nat)=>wtL b (n6 b E x_2) (↑k:Int)]∧eqA x_2 (j6 (n6 b E x_2))∧True)∧((wtL b (n6 b E x_2) (↑x_4:Int) ==m && !a8y (mkN (b8 m (n6 b E x_2)) x_2) (↑x_4:Int) && (decide (p8 (y6 b (n6 b E x_3)) E x_4 < m) || decide ((b8 e0 E x_4).ag < (b8 e0 E (p8 (y6 b (n6 b E x_3)) E x_4).toNat).ag)))=false→∃(x:Nat),(x≤E.length∧x_3 < E.length)∧(B.ann x_3).mu x < (B.ann x_3).mu x_4∧(c∧True∧True∧m=m∧a=a∧True∧E.length=E.length∧x_2=x_2∧p8 (y6 b (n6 b E x_3)) E x_4=p8 (y6 b (n6 b E x_3)) E x∧c∧d6 E R M=d6 E R M∧false=false∧True∧E.length=E.length∧a=a∧a=a∧c∧s∧c∧t∧a=a∧c∧C∧u∧y=y∧n∧n∧(d9 a (mkN (fun(j:Nat)=>((b8 d b j).fst,(b8 d b j).snd)) e.len) && a28 E.length (wF (e9 (mkN (fun(j:Nat)=>((b8 d b j).fst,(b8 d b j).snd)) e.len))
 E.length))=(d9 a (mkN (fun(j:Nat)=>((b8 d b j).fst,(b8 d b j).snd)) e.len) && a28 E.length (wF (e9 (mkN (fun(j:Nat)=>((b8 d b j).fst,(b8 d b j).snd)) e.len)) E.length))∧false=false∧a=a∧E.length=E.length∧True∧e.len=e.len∧o=o∧(↑x_1:Int)=(↑x_1:Int)∧false=false∧x_2=x_2∧(↑x_2:Int)=(↑x_2:Int)∧a=a∧true=true∧True∧E.length=E.length∧a=a∧IntKind.i64.wrap ((↑x_4:Int) + I)=(↑x:Int)∧True)∧eqT∧eqA E.length (g9 E)∧eqA R.length (j6 R)∧eqA M.length (l4 M)∧c∧z∧eqP f∧eqP g∧c∧True∧eqP l∧eqA y [Col.int IntKind.i64 G,Col.rows q [s6 (fun(j:Nat)=>(b8 d f j).fst) (fun(j:Nat)=>(b8 d g j).fst) fun(j:Nat)=>(b8 d l j).fst,s6 (fun(j:Nat)=>(b8 d f j).snd) (fun(j:Nat)=>(b8 d g j).snd) fun(j:Nat)=>(b8 d l j).snd]]∧eqP b∧n∧eqA E.length [Col.int IntKind.i64 fun(k:Nat)=>wtL b (n6 b E x_2) (↑k:Int)]∧eqA x_2 (j6 (n6 b E x_2))∧True))∧(decide ((↑x_4:Int) < a)=false→x_2=x_2∧w=w∧(x_2 + w) * (8:Nat)≤(140737488355328:Nat)∧x_2 + w≤(9223372036854775807:Nat)∧∃(x_5:Nat),(∃(x:Nat),(x≤b.length∧x_5 < E.length)∧(m=(↑x:Int)∧True)∧(E.length=E.length∧(∀(j:Nat),j < E.length→wtL b (n6 b E x_2) (↑j:Int)=wtL b (n6 b E x_5) (↑j:Int) - a5t b (p8 (y6 b (n6 b E x_5)) E E.length) (↑j:Int) x)∧True)∧True)∧∀(x_6:Nat),x_6≤b.length∧x_5 < E.length→(decide ((↑x_6:Int) < o)=true→(m≤(↑x_6:Int)∧(↑x_6:Int) < o)∧x_6 < e.len∧(((b8 d b x_6).fst ==p8 (y6 b (n6 b E x_3)) E x_4)=true→(m≤(b8 d b x_6).snd∧(b8 d b x_6).snd < a)∧(b8 d b x_6).snd.toNat < E.length∧(m≤(b8 d b x_6).snd∧(b8 d b x_6).snd < a)∧(b8 d b x_6).snd.toNat <
 E.length∧∃(x:Nat),(x≤b.length∧x_5 < E.length)∧(A.ann x_5).mu x < (A.ann x_5).mu x_6∧(c∧True∧True∧m=m∧a=a∧True∧E.length=E.length∧x_2 + w=x_2 + w∧p8 (y6 b (n6 b E x_3)) E x_4=p8 (y6 b (n6 b E x_3)) E x_4∧c∧d6 E R M=d6 E R M∧false=false∧True∧E.length=E.length∧a=a∧a=a∧c∧s∧c∧t∧a=a∧c∧C∧u∧y=y∧n∧n∧(d9 a (mkN (fun(j:Nat)=>((b8 d b j).fst,(b8 d b j).snd)) e.len) && a28 E.length (wF (e9 (mkN (fun(j:Nat)=>((b8 d b j).fst,(b8 d b j).snd)) e.len)) E.length))=(d9 a (mkN (fun(j:Nat)=>((b8 d b j).fst,(b8 d b j).snd)) e.len) && a28 E.length (wF (e9 (mkN (fun(j:Nat)=>((b8 d b j).fst,(b8 d b j).snd)) e.len)) E.length))∧false=false∧a=a∧E.length=E.length∧True∧e.len=e.len∧o=o∧(↑x_1:Int)=(↑x_1:Int)∧false=false∧(↑x_2:Int)=(↑x_2:Int)∧a=a∧true=true∧True∧E.length=E.length∧a=a∧(↑x_4:Int)=(↑x_4:Int)∧false=false∧p8 (y6 b (n6 b E x_3)) E x_4=p8 (y6 b (n6 b E x_3)) E x_4∧w=w∧x_2 + w=x_2 + w∧True∧e.len=e.len∧o=o∧IntKind.i64.wrap ((↑x_6:Int) + I)=(↑x:Int)∧True)∧eqT∧eqA E.length (g9 E)∧eqA R.length (j6 R)∧eqA M.length (l4 M)∧c∧z∧eqP f∧eqP g∧c∧True∧eqP l∧eqA y [Col.int IntKind.i64 G,Col.rows q [s6 (fun(j:Nat)=>(b8 d f j).fst) (fun(j:Nat)=>(b8 d g j).fst) fun(j:Nat)=>(b8 d l j).fst,s6 (fun(j:Nat)=>(b8 d f j).snd) (fun(j:Nat)=>(b8 d g j).snd) fun(j:Nat)=>(b8 d l j).snd]]∧eqP b∧n∧(E.length=E.length∧(∀(j:Nat),j < E.length→(bif j.beq (b8 d b x_6).snd.toNat then IntKind.i64.wrap (wtL b (n6 b E x_5) (↑(b8 d b x_6).snd.toNat:Int) - a5t b (p8 (y6 b (n6 b E x_5)) E E.length) (↑(b8 d b x_6).snd.toNat:Int) x_6 - I) else
 wtL b (n6 b E x_5) (↑j:Int) - a5t b (p8 (y6 b (n6 b E x_5)) E E.length) (↑j:Int) x_6)=wtL b (n6 b E x_5) (↑j:Int) - a5t b (p8 (y6 b (n6 b E x_5)) E E.length) (↑j:Int) x)∧True)∧eqA (x_2 + w) [Col.int IntKind.i64 fun(j:Nat)=>bif j.blt x_2 then b8 m (n6 b E x_2) j else e8 [p8 (y6 b (n6 b E x_3)) E x_4] (j - x_2)]∧eqA w [Col.int IntKind.i64 (e8 [p8 (y6 b (n6 b E x_3)) E x_4])]∧True)∧(((b8 d b x_6).fst ==p8 (y6 b (n6 b E x_3)) E x_4)=false→∃(x:Nat),(x≤b.length∧x_5 < E.length)∧(A.ann x_5).mu x < (A.ann x_5).mu x_6∧(c∧True∧True∧m=m∧a=a∧True∧E.length=E.length∧x_2 + w=x_2 + w∧p8 (y6 b (n6 b E x_3)) E x_4=p8 (y6 b (n6 b E x_3)) E x_4∧c∧d6 E R M=d6 E R M∧false=false∧True∧E.length=E.length∧a=a∧a=a∧c∧s∧c∧t∧a=a∧c∧C∧u∧y=y∧n∧n∧(d9 a (mkN (fun(j:Nat)=>((b8 d b j).fst,(b8 d b j).snd)) e.len) && a28 E.length (wF (e9 (mkN (fun(j:Nat)=>((b8 d b j).fst,(b8 d b j).snd)) e.len)) E.length))=(d9 a (mkN (fun(j:Nat)=>((b8 d b j).fst,(b8 d b j).snd)) e.len) && a28 E.length (wF (e9 (mkN (fun(j:Nat)=>((b8 d b j).fst,(b8 d b j).snd)) e.len)) E.length))∧false=false∧a=a∧E.length=E.length∧True∧e.len=e.len∧o=o∧(↑x_1:Int)=(↑x_1:Int)∧false=false∧(↑x_2:Int)=(↑x_2:Int)∧a=a∧true=true∧True∧E.length=E.length∧a=a∧(↑x_4:Int)=(↑x_4:Int)∧false=false∧p8 (y6 b (n6 b E x_3)) E x_4=p8 (y6 b (n6 b E x_3)) E x_4∧w=w∧x_2 + w=x_2 + w∧True∧e.len=e.len∧o=o∧IntKind.i64.wrap ((↑x_6:Int) + I)=(↑x:Int)∧True)∧eqT∧eqA E.length (g9 E)∧eqA R.length (j6 R)∧eqA M.length (l4 M)∧c∧z∧eqP f∧eqP g∧c∧True∧eqP l∧eqA y [Col.int IntKind.i64
 G,Col.rows q [s6 (fun(j:Nat)=>(b8 d f j).fst) (fun(j:Nat)=>(b8 d g j).fst) fun(j:Nat)=>(b8 d l j).fst,s6 (fun(j:Nat)=>(b8 d f j).snd) (fun(j:Nat)=>(b8 d g j).snd) fun(j:Nat)=>(b8 d l j).snd]]∧eqP b∧n∧(E.length=E.length∧(∀(j:Nat),j < E.length→wtL b (n6 b E x_5) (↑j:Int) - a5t b (p8 (y6 b (n6 b E x_5)) E E.length) (↑j:Int) x_6=wtL b (n6 b E x_5) (↑j:Int) - a5t b (p8 (y6 b (n6 b E x_5)) E E.length) (↑j:Int) x)∧True)∧eqA (x_2 + w) [Col.int IntKind.i64 fun(j:Nat)=>bif j.blt x_2 then b8 m (n6 b E x_2) j else e8 [p8 (y6 b (n6 b E x_3)) E x_4] (j - x_2)]∧eqA w [Col.int IntKind.i64 (e8 [p8 (y6 b (n6 b E x_3)) E x_4])]∧True))∧(decide ((↑x_6:Int) < o)=false→∃(x_7:Nat),(x_7≤E.length∧∀(i:Int),List.Mem i (n6 b E x_7)→m≤i∧i < a)∧(D.ann x).mu x_7 < (D.ann x).mu x_2∧(c∧True∧True∧m=m∧a=a∧True∧E.length=E.length∧x_2 + w=x_7∧c∧d6 E R M=d6 E R M∧false=false∧True∧E.length=E.length∧a=a∧a=a∧c∧s∧c∧t∧a=a∧c∧C∧u∧y=y∧n∧n∧(d9 a (mkN (fun(j:Nat)=>((b8 d b j).fst,(b8 d b j).snd)) e.len) && a28 E.length (wF (e9 (mkN (fun(j:Nat)=>((b8 d b j).fst,(b8 d b j).snd)) e.len)) E.length))=(d9 a (mkN (fun(j:Nat)=>((b8 d b j).fst,(b8 d b j).snd)) e.len) && a28 E.length (wF (e9 (mkN (fun(j:Nat)=>((b8 d b j).fst,(b8 d b j).snd)) e.len)) E.length))∧false=false∧a=a∧E.length=E.length∧True∧e.len=e.len∧o=o∧(↑x_1:Int)=(↑x_1:Int)∧false=false∧True)∧eqT∧eqA E.length (g9 E)∧eqA R.length (j6 R)∧eqA M.length (l4 M)∧c∧z∧eqP f∧eqP g∧c∧True∧eqP l∧eqA y [Col.int IntKind.i64 G,Col.rows q [s6 (fun(j:Nat)=>(b8 d f j).fst) (fun(j:Nat)=>(b8
 d g j).fst) fun(j:Nat)=>(b8 d l j).fst,s6 (fun(j:Nat)=>(b8 d f j).snd) (fun(j:Nat)=>(b8 d g j).snd) fun(j:Nat)=>(b8 d l j).snd]]∧eqP b∧n∧(E.length=E.length∧(∀(j:Nat),j < E.length→wtL b (n6 b E x_5) (↑j:Int) - a5t b (p8 (y6 b (n6 b E x_5)) E E.length) (↑j:Int) x_6=wtL b (n6 b E x_7) (↑j:Int))∧True)∧(x_2 + w=x_7∧(∀(j:Nat),j < x_7→(bif j.blt x_2 then b8 m (n6 b E x_2) j else e8 [p8 (y6 b (n6 b E x_3)) E x_4] (j - x_2))=b8 m (n6 b E x_7) j)∧True)∧True)))∧(decide ((↑x_2:Int) < a)=false→E.length=E.length∧R.length=R.length∧M.length=M.length∧nE E∧nI R∧nR M∧x_2=x_2∧(((mkN (b8 m (n6 b E x_2)) x_2).length≤(64:Nat)∧R.length=E.length∧M.length≤(8:Nat))∧(∀(r:List Int),List.Mem r M→r.length≤H)∧∀(i:Int),List.Mem i (mkN (b8 m (n6 b E x_2)) x_2)→m≤i∧i < a)∧m=a3b E R M∧((arE E (mkN (b8 m (n6 b E x_2)) x_2)).length=h.length∧(arE E (mkN (b8 m (n6 b E x_2)) x_2)).length=h.length∧(∀(j:Nat),j < h.length→(b8 e0 (arE E (mkN (b8 m (n6 b E x_2)) x_2)) j).ag=(b8 e0 h j).ag)∧(∀(j:Nat),j < h.length→(b8 e0 (arE E (mkN (b8 m (n6 b E x_2)) x_2)) j).ix=(b8 e0 h j).ix)∧(∀(j:Nat),j < h.length→(b8 e0 (arE E (mkN (b8 m (n6 b E x_2)) x_2)) j).k=(b8 e0 h j).k)∧(∀(j:Nat),j < h.length→(b8 e0 (arE E (mkN (b8 m (n6 b E x_2)) x_2)) j).ob=(b8 e0 h j).ob)∧(∀(j:Nat),j < h.length→(b8 e0 (arE E (mkN (b8 m (n6 b E x_2)) x_2)) j).mu=(b8 e0 h j).mu)∧(∀(j:Nat),j < h.length→(b8 e0 (arE E (mkN (b8 m (n6 b E x_2)) x_2)) j).en=(b8 e0 h j).en)∧(∀(j:Nat),j < h.length→(b8 e0 (arE E (mkN (b8 m (n6 b E x_2)) x_2)) j).od=(b8 e0 h
 j).od)∧(∀(j:Nat),j < h.length→(b8 e0 (arE E (mkN (b8 m (n6 b E x_2)) x_2)) j).rd=(b8 e0 h j).rd)∧(∀(j:Nat),j < h.length→(b8 e0 (arE E (mkN (b8 m (n6 b E x_2)) x_2)) j).wr=(b8 e0 h j).wr)∧True)∧((arR R (mkN (b8 m (n6 b E x_2)) x_2)).length=v.length∧(arR R (mkN (b8 m (n6 b E x_2)) x_2)).length=v.length∧(∀(j:Nat),j < v.length→b8 m (arR R (mkN (b8 m (n6 b E x_2)) x_2)) j=b8 m v j)∧True)∧(arM M (mkN (b8 m (n6 b E x_2)) x_2)).length=p.length∧(arM M (mkN (b8 m (n6 b E x_2)) x_2)).length=p.length∧((∀(j:Nat),j < p.length→(b8 [] (arM M (mkN (b8 m (n6 b E x_2)) x_2)) j).length=(b8 [] p j).length)∧(∀(j:Nat),j < p.length→∀(i:Nat),i < (b8 [] p j).length→b8 m (b8 [] (arM M (mkN (b8 m (n6 b E x_2)) x_2)) j) i=b8 m (b8 [] p j) i)∧True)∧True)))
theorem k20 (E:List Ev) (R:List Int) (M:List (List Int)) (h:SzG E M) (hv:d6 E R M=true):c79 E R M:=by
 obtain⟨hG,hN⟩:=a25 hv h
 obtain⟨hM,hR⟩:=a2a hv
 have hcv:d9 E.length (o5 (a0g E.length (poG E R M) (rfG E R M) (f9 E R M)) (a0g E.length (poG E R M) (rfG E R M) (f9 E R M)).length)=true:=(b1p _ _ _ hN).1.2
 have hsup:=b7l hcv
 rw[Int.toNat_natCast] at hsup
 have hPv:d9 E.length (d7 E R M)=true:=a7l _ hN
 have hPl:(d7 E R M).length≤4096:=b72 _ hN
 have hao:b4e E.length (d7 E R M)=true→Ord E.length (d7 E R M):=fun ha=>c95 hsup ha
 have hin:∀ j,j < (d7 E R M).length→(0≤(b8 (0,0) (d7 E R M) j).2∧(b8 (0,0) (d7 E R M) j).2 < E.length):=fun j hj=>by
  have:=(y7.1 hPv).2.2 (b8 (0,0) (d7 E R M) j) (by rw[s9 _ _ _ hj]; exact z2r hj)
  exact this.2.2
 unfold c79
 simp only[eq_self,true_and,and_true,z0p,imp_self,m5,n5,o0,g8,i9,PLoop.of,s5,AV.len,j5,z0v,j8,l5,l6,m6,m7,m8,lN1,lN2,lN3,lN4,c9r,b6v,hPv,z1j]
 have hacy:a28 E.length (wF (e9 (d7 E R M)) E.length)=b4e E.length (d7 E R M):=rfl
 have hok:o6 E R M=b4e E.length (d7 E R M):=by simp[o6,hv]
 have her:a3b E R M=bif b4e E.length (d7 E R M) then 0 else 20:=by simp[a3b,hv]
 rw[hacy,hok,her]
 have hO:v8 E R M=n6 (d7 E R M) E E.length:=rfl
 rw[hO]
 generalize d7 E R M=P at *
 refine⟨by omega,⟨by omega,hR⟩,by omega,hN,by omega,fun ha=>?_,fun ha=>?_⟩
 ·have ha:b4e E.length P=false:=by simpa using ha
  rw[ha]
  exact⟨rfl,rfl,rfl,rfl⟩
 have ha:b4e E.length P=true:=by simpa using ha
 have ho:=hao ha
 rw[ha]
 simp only[i5,z0f]
 refine⟨by omega,by omega,by omega,(),⟨0,by omega,rfl,fun _ _=>rfl⟩,fun j hj=>⟨fun hlj=>?_,fun hlj=>?_⟩⟩
 ·have hj2:j < P.length:=by have:=z0e hlj; omega
  have hi:=hin j hj2
  have hn:=a4q hi
  refine⟨⟨by omega,by omega⟩,hj2,hi,hn,hi,hn,j + 1,by omega,by omega,wrS (n:=P.length) hj2 (by omega),fun k hk=>?_⟩
  have hle:=b7q P [] k j
  simp only[a5s]
  have e:((b8 (0,0) P j).2 == (k:Int) && !([]:List Int).contains (b8 (0,0) P j).1)=Nat.beq k (b8 (0,0) P j).2.toNat:=by
   rw[z3i]
   simp only[List.contains_nil,z2y,z1x,beq_iff_eq,Nat.beq_eq]
   omega
  rw[e]
  cases hb:Nat.beq k (b8 (0,0) P j).2.toNat
  ·rfl
  ·have:=z0b hb
   rw[z0f,z0f,← this]
   exact a7h (by omega) (by omega)
 have hj2:j=P.length:=by have:=z0l hlj; omega
 subst hj2
 refine⟨(),⟨0,⟨by omega,fun i hi=>by cases hi⟩,rfl,⟨rfl,rfl⟩,fun _ _=>rfl⟩,fun s hs=>⟨fun hls=>?_,fun hls=>?_⟩⟩
 ·have hs2:s < E.length:=by have:=z0e hls; omega
  have hlen:=a4f P E s
  have hbst:=ho.best (L:=n6 P E s) (by omega)
  refine⟨s,⟨0,⟨by omega,hs2⟩,rfl,rfl⟩,fun i hi=>⟨fun hli=>?_,fun hli=>?_⟩⟩
  ·have hi2:i < E.length:=by have:=z0e hli; omega
   have hb:=b7t (y6 P (n6 P E s)) E i
   have hw:=wrS (n:=E.length) hi2 (by omega)
   have hin2:decide (p8 (y6 P (n6 P E s)) E i < 0)=false→0≤p8 (y6 P (n6 P E s)) E i∧p8 (y6 P (n6 P E s)) E i < E.length:=fun h1=>by
    have:=z0l h1; omega
   have e:p8 (y6 P (n6 P E s)) E (i + 1)=bif (wtL P (n6 P E s) i == 0 && !a8y (n6 P E s) i) && (decide (p8 (y6 P (n6 P E s)) E i < 0) || decide ((b8 e0 E i).ag < (b8 e0 E (p8 (y6 P (n6 P E s)) E i).toNat).ag)) then(i:Int) else p8 (y6 P (n6 P E s)) E i:=rfl
   refine⟨⟨by omega,by omega⟩,hi2,⟨by omega,by omega⟩,hi2,fun _=>by omega,fun h1 _=>hin2 h1,fun h1 _=>a4q (hin2 h1),fun hc=>⟨i + 1,⟨by omega,hs2⟩,by omega,?_,hw⟩,fun hc=>⟨i + 1,⟨by omega,hs2⟩,by omega,?_,hw⟩⟩
   ·rw[e,hc]; rfl
   ·rw[e,hc]; rfl
  ·have hi2:i=E.length:=by have:=z0l hli; omega
   subst hi2
   refine⟨by omega,by omega,s,⟨0,⟨by omega,hs2⟩,rfl,fun k _=>by simp[a5t]⟩,fun q hq=>⟨fun hlq=>?_,fun hlq=>?_⟩⟩
   ·have hq2:q < P.length:=by have:=z0e hlq; omega
    have hi:=hin q hq2
    have hn:=a4q hi
    have hw:=wrS (n:=P.length) hq2 (by omega)
    refine⟨⟨by omega,by omega⟩,hq2,fun hc=>⟨hi,hn,hi,hn,q + 1,⟨by omega,hs2⟩,by omega,hw,fun k hk=>?_⟩,fun hc=>⟨q + 1,⟨by omega,hs2⟩,by omega,hw,fun k hk=>?_⟩⟩
    ·have h1:=b7q P (n6 P E s) k P.length
     have h2:=c98 P (p8 (y6 P (n6 P E s)) E E.length) k q
     simp only[a5t,hc,z1x]
     have e:((b8 (0,0) P q).2 == (k:Int))=Nat.beq k (b8 (0,0) P q).2.toNat:=by
      rw[z3i]
      simp only[beq_iff_eq,Nat.beq_eq]
      omega
     rw[e]
     cases hb:Nat.beq k (b8 (0,0) P q).2.toNat
     ·rfl
     ·have:=z0b hb
      rw[z0f,z0f,← this,a7h (by unfold wtL; omega) (by unfold wtL; omega)]
      omega
    ·simp only[a5t,hc,Bool.and_false,z0m]
   ·have hq2:q=P.length:=by have:=z0l hlq; omega
    subst hq2
    refine⟨s + 1,⟨by omega,fun i hi=>(ho.list (s:=s + 1) (by omega)).1 i hi⟩,by omega,rfl,fun k _=>?_,rfl,fun k hk=>?_⟩
    ·exact(c5c hbst.2.2 k P.length).symm
    ·have e:n6 P E (s + 1)=n6 P E s ++ [p8 (y6 P (n6 P E s)) E E.length]:=rfl
     rw[e]
     cases hb:Nat.blt k s
     ·obtain rfl:=a5u hb hk
      rw[z0m]
      have:=a9e (0:Int) (l:=n6 P E k) (x:=p8 (y6 P (n6 P E k)) E E.length)
      rw[a4f] at this
      rw[this]; rfl
     ·rw[z0f,a7m (0:Int) (by rw[a4f]; rwa [z0u] at hb)]
 ·have hs2:s=E.length:=by have:=z0l hls; omega
  subst hs2
  refine⟨⟨⟨by rw[a4f]; exact hN,hR,hM⟩,h.2 hM,hs.2⟩,?_⟩
  simp only[z0p,and_self,true_and,and_true]
theorem fo20:o8 Tryz.prog 20:=⟨Tryz.f20,Tryz.func20,by kernel_rfl,by kernel_rfl⟩
def q20D (E:List Ev) (R:List Int) (M:List (List Int)):Prop:=n9 (({ g:=true,calls:=[a49 (nmT E R M),kRl 55 (b4t pgE poG) (nmT E R M),kRl 61 (b4t pgR rfG) (nmT E R M),kLis,kCol (nmT E R M),kPre E R M,kAcy [],kCon [],kArr (nmT E R M)],loops:=[(0,.of (lN1 E.length (d7 E R M) 42 17)),(2,.of (lN2 E (d7 E R M) 9 18 17)),(4,lN3 E (d7 E R M) 61 10),(6,lN4 E (d7 E R M) 101 17)],takes:=[(5,d7u 5 36)] }:Kit)).tab Tryz.f20 [b4k E R M] (grT E R M) ((norV E R M).post EL)
theorem d53 (E:List Ev) (R:List Int) (M:List (List Int)):q20D E R M=(
 let a:=E.length=E.length∧c79 E R M
 some tbl=some tbl∧E.length=E.length∧R.length=R.length∧M.length=M.length∧nE E∧nI R∧nR M∧(E.length≤(1099511627776:Nat)∧(M.length≤(8:Nat)→∀(r:List Int),List.Mem r M→r.length≤(1099511627776:Nat)))∧((!d6 E R M)=true→(1:Int)=a3b E R M∧(i5 (o6 E R M) (arE E (v8 E R M))).length=(0:Nat)∧(i5 (o6 E R M) (arR R (v8 E R M))).length=(0:Nat)∧(i5 (o6 E R M) (arM M (v8 E R M))).length=(0:Nat))∧((!d6 E R M)=false→a∧a∧E.length=E.length∧c79 E R M)):=by kernel_rfl
theorem v20 (E:List Ev) (R:List Int) (M:List (List Int)) (h:SzG E M):q20D E R M:=by
 rw[d53]
 cases hv:d6 E R M
 ·simp only[eq_self,true_and,and_true,z0p,imp_self,m5,n5,o0,g8,i9,PLoop.of,s5,AV.len,j5,z0v,j8,l5,l6,m6,m7,m8,a3b,o6,hv,i5,z0m,Bool.false_and,z2y,z3a]
  exact⟨⟨h.1,h.2⟩,by simp⟩
 ·have hk:=k20 E R M h hv
  simp only[eq_self,true_and,and_true,z0p,imp_self,m5,n5,o0,g8,i9,PLoop.of,s5,AV.len,j5,z0v,j8,l5,l6,m6,m7,m8,hk,Bool.not_true]
  exact⟨⟨h.1,h.2⟩,by simp⟩
theorem n20 (nm:List (Option AV)):CallOk Tryz.prog GL 20 (n8 EL gbT nm [PG] c83):=a4r Tryz.func20 fo20 fun av pre rv h=>by
 unfold c83 at h; split at h <;> cases h
 exact⟨⟨rfl,fun t a e=>by cases e <;> exact z0k _ _⟩,fun hp=>⟨_,v20 _ _ _ (hp _ (.head _)),rfl,(m9 (n33 _) (m9 (a0y (n55 _)) (m9 (a0y (n61 _)) (m9 (a0y n57) (m9 (a0y (n56 _)) (m9 (a0y (nPre _ _ _)) (m9 (a0y (n63 _)) (m9 (a0y (n64 _)) (m9 (a0y (n65 _)) v4))))))))),v5⟩⟩
def nmT2 (E:List Ev) (R:List Int) (M:List (List Int)) (E':List Ev) (R':List Int) (M':List (List Int)):List (Option AV):=[none,some (.es E),some (.is R),some (.rs M),some (.es E'),some (.is R'),some (.rs M')]
def grT2 (E:List Ev) (R:List Int) (M:List (List Int)) (E':List Ev) (R':List Int) (M':List (List Int)):List MBlk:=[tbl,.arr E.length (g9 E),.arr R.length (j6 R),.arr M.length (l4 M),.arr E'.length (g9 E'),.arr R'.length (j6 R'),.arr M'.length (l4 M')]
def d7l (E':List Ev) (R':List Int) (M':List (List Int)):SV:=.agg [.sl 4 E'.length,.sl 5 R'.length,.sl 6 M'.length]
def noE (E:List Ev) (R:List Int) (M:List (List Int)):List Ev:=i5 (o6 E R M) (arE E (v8 E R M))
def noR (E:List Ev) (R:List Int) (M:List (List Int)):List Int:=i5 (o6 E R M) (arR R (v8 E R M))
def noM (E:List Ev) (R:List Int) (M:List (List Int)):List (List Int):=i5 (o6 E R M) (arM M (v8 E R M))
def a30 (E:List Ev) (R:List Int) (M:List (List Int)) (E':List Ev) (R':List Int) (M':List (List Int)):Int:=
 bif a3b E R M != 0 then(bif a3b E' R' M' != 0 then 0 else -1) else bif a3b E' R' M' != 0 then 1
 else orF [u6 a4y (noE E R M) (noE E' R' M'),u6 j9 (noR E R M) (noR E' R' M'),b2n (noM E R M) (noM E' R' M')]
def c6p (E:List Ev) (R:List Int) (M:List (List Int)) (E':List Ev) (R':List Int) (M':List (List Int)):List (Option AV):=nmT2 E R M E' R' M' ++ [none,none,some (.es (noE E R M)),some (.is (noR E R M)),some (.rs (noM E R M)),none,some (.es (noE E' R' M')),some (.is (noR E' R' M')),some (.rs (noM E' R' M'))]
def c7y:SpP:=fun
 | [.ag [.es E,.is R,.rs M],.ag [.es E',.is R',.rs M']]=>some ([SzG E M,SzG E' M'],plI (a30 E R M E' R' M'))
 | _=>none
def d7q (nm:List (Option AV)):Nat × (List MBlk→List SV→Option AR):=(42,n8 EL gbT nm [PG,PG] c7y)
end Go.Proofs.YtaeeaniofljmnaaGreatDoor

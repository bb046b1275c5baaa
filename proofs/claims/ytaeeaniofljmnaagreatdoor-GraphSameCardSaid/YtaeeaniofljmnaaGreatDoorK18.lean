/-
  A part of the proof (K18).
-/
import Derived.Test.YtaeeaniofljmnaaGreatDoorK14
namespace Go.Proofs.YtaeeaniofljmnaaGreatDoor
set_option linter.unusedSimpArgs false
set_option linter.unusedVariables false
open Go Go.Proofs.YtaeeaniofljmnaaGreatDoor.Sx
set_option maxRecDepth 100000
def a97 (a b:Ev):Bool:=(decide (b0l a ≥ 0) && b0l a == b0l b) || (decide (a43 a ≥ 0) && a43 a == a43 b)
def syG:GF:=fun E _ _ i k=>decide (i < k) && a97 (evA E i) (evA E k)
def x8 (M:List (List Int)) (o:Int):List Int:=b7 [] M o.toNat
def moB (M:List (List Int)) (a b:Ev) (i k:Int):Bool:=wrE a && wrE b && a.ob == b.ob && decide (w9 (x8 M a.ob) i < w9 (x8 M a.ob) k)
def moG:GF:=fun E _ M i k=>moB M (evA E i) (evA E k) i k
def frG:GF:=fun E R M i k=>rdE (evA E i) && wrE (evA E k) && (evA E i).ob == (evA E k).ob && !(i == k) && (inA R i == -1 || moG E R M (inA R i) k)
def a9c (E:List Ev) (M:List (List Int)):Prop:=(∀ r∈M,L40 r.length)∧∀ i:Int,0≤i→i < E.length→wrE (evA E i)=true→0≤(evA E i).ob∧(evA E i).ob < M.length
def pcM:GP:=fun E _ M i k=>b1e E i k∧a9c E M
def pcF:GP:=fun E R M i k=>b1e E i k∧a9c E M∧R.length=E.length∧∀ j:Int,0≤j→j < E.length→rdE (evA E j)=true→inA R j = -1∨(0≤inA R j∧inA R j < E.length)
def b5k (pc:GP) (fn:GF):SpG:=fun
 | [.ag [.es E,.is R,.rs M],.lf (.i i),.lf (.i k)]=>some ([pc E R M i k],.rv (.pl (.b (fn E R M i k))))
 | _=>none
def c04 (n:Nat) (pc:GP) (fn:GF) (nm:List (Option AV)):Nat × (List MBlk→List SV→Option AR):=(n,q6 EL none nm [PG,.lf .i,.lf .i] (b5k pc fn))
theorem c9t {M:List (List Int)} {o:Int} (h0:0≤o) (h:o < M.length):x8 M o∈M:=by
 have h1:o.toNat < M.length:=by omega
 rw[x8,m7 [] M _ h1]
 exact z1v h1
theorem e1e:s5 Tryz.prog 184:=⟨Tryz.f184,Tryz.func184,by kernel_rfl,by kernel_rfl⟩
def d69 (E:List Ev) (R:List Int) (M:List (List Int)) (i k:Int):Prop:=s4 (({}:Kit)).tab Tryz.f184 [grV E R M,.i .i64 i,.i .i64 k] (grM E R M) (m4 (.b (poG E R M i k)))
theorem d4u (E:List Ev) (R:List Int) (M:List (List Int)) (i k:Int):d69 E R M i k=(
 let a:=(b7 e0 E i.toNat).ag ==(b7 e0 E k.toNat).ag && decide (i < k) || (b7 e0 E i.toNat).k ==(16:Int) && (b7 e0 E i.toNat).ob ==(b7 e0 E k.toNat).ag || (b7 e0 E k.toNat).k ==(17:Int) && (b7 e0 E k.toNat).ob ==(b7 e0 E i.toNat).ag
 ((0:Int)≤i∧i < (↑E.length:Int))∧i.toNat < E.length∧((0:Int)≤k∧k < (↑E.length:Int))∧k.toNat < E.length∧(a=true→true=poG E R M i k)∧(a=false→((b7 e0 E i.toNat).k ==(16:Int) && (b7 e0 E k.toNat).k ==(17:Int) && (b7 e0 E i.toNat).ob ==(b7 e0 E k.toNat).ob)=poG E R M i k)):=by kernel_rfl
theorem v184 (E:List Ev) (R:List Int) (M:List (List Int)) (i k:Int) (h:pcE E R M i k):d69 E R M i k:=by
 rw[d4u]
 refine⟨h.1,a10 h.1,h.2,a10 h.2,?_⟩
 simp only[poG,poF,poB,evA]
 grind
theorem fo94:s5 Tryz.prog 94:=⟨Tryz.f94,Tryz.func94,by kernel_rfl,by kernel_rfl⟩
def q94D (E:List Ev) (R:List Int) (M:List (List Int)) (i k:Int):Prop:=s4 (({ calls:=[d22 139 b0l,d22 140 a43] }:Kit)).tab Tryz.f94 [grV E R M,.i .i64 i,.i .i64 k] (grM E R M) (m4 (.b (syG E R M i k)))
theorem d9q (E:List Ev) (R:List Int) (M:List (List Int)) (i k:Int):q94D E R M i k=(
 let a:=b7 e0 E i.toNat
 ((0:Int)≤i∧i < (↑E.length:Int))∧i.toNat < E.length∧((0:Int)≤k∧k < (↑E.length:Int))∧k.toNat < E.length∧(decide (i < k) && (decide (b0l a ≥ (0:Int)) && b0l a ==b0l (b7 e0 E k.toNat) || decide (a43 a ≥ (0:Int)) && a43 a ==a43 (b7 e0 E k.toNat)))=syG E R M i k):=by kernel_rfl
theorem v94 (E:List Ev) (R:List Int) (M:List (List Int)) (i k:Int) (h:pcE E R M i k):q94D E R M i k:=by
 rw[d9q]
 refine⟨h.1,a10 h.1,h.2,a10 h.2,?_⟩
 simp only[syG,a97,evA]
 first | rfl | grind
theorem fo95:s5 Tryz.prog 95:=⟨Tryz.f95,Tryz.func95,by kernel_rfl,by kernel_rfl⟩
def q95D (E:List Ev) (R:List Int) (M:List (List Int)) (i k:Int):Prop:=s4 (({ calls:=[kE1 84 wrE,c5w 66 []] }:Kit)).tab Tryz.f95 [grV E R M,.i .i64 i,.i .i64 k] (grM E R M) (m4 (.b (moG E R M i k)))
theorem d9r (E:List Ev) (R:List Int) (M:List (List Int)) (i k:Int):q95D E R M i k=(
 let a:=wrE (b7 e0 E i.toNat) && wrE (b7 e0 E k.toNat) && (b7 e0 E i.toNat).ob ==(b7 e0 E k.toNat).ob
 let b:=b7 [] M (b7 e0 E i.toNat).ob.toNat
 let c:=b7 e0 E i.toNat
 let d:=a=true→(0:Int)≤c.ob∧c.ob < (↑M.length:Int)
 let e:=a=true→c.ob.toNat < M.length
 let f:=a=true→b.length=b.length
 let g:=(0:Int)
 (g≤i∧i < (↑E.length:Int))∧i.toNat < E.length∧(g≤k∧k < (↑E.length:Int))∧k.toNat < E.length∧d∧e∧f∧(a=true→(mkN (fun(i_1:Nat)=>b7 g b i_1) b.length).length≤(1099511627776:Nat))∧d∧e∧f∧(a=true→(mkN (fun(i_1:Nat)=>b7 g b i_1) b.length).length≤(1099511627776:Nat))∧(wrE c && wrE (b7 e0 E k.toNat) && c.ob ==(b7 e0 E k.toNat).ob && decide (w9 (mkN (fun(i_1:Nat)=>b7 g b i_1) b.length) i < w9 (mkN (fun(i_1:Nat)=>b7 g b i_1) b.length) k))=moG E R M i k):=by kernel_rfl
theorem v95 (E:List Ev) (R:List Int) (M:List (List Int)) (i k:Int) (h:pcM E R M i k):q95D E R M i k:=by
 rw[d9r]
 obtain⟨⟨hi,hk⟩,hM,hW⟩:=h
 have key:(wrE (b7 e0 E i.toNat) && wrE (b7 e0 E k.toNat) && (b7 e0 E i.toNat).ob == (b7 e0 E k.toNat).ob)=true→0≤(b7 e0 E i.toNat).ob∧(b7 e0 E i.toNat).ob < M.length:=fun hw=>hW i hi.1 hi.2 (by simp only[z0d] at hw; exact hw.1.1)
 have kl:(wrE (b7 e0 E i.toNat) && wrE (b7 e0 E k.toNat) && (b7 e0 E i.toNat).ob == (b7 e0 E k.toNat).ob)=true→(b7 [] M (b7 e0 E i.toNat).ob.toNat).length≤1099511627776:=fun hw=>hM _ (c9t (key hw).1 (key hw).2)
 have kn:=fun hw=>a10 (key hw)
 have hi2:=a10 hi
 have hk2:=a10 hk
 simp only[eq_self,true_and,and_true,z0o,imp_self,o6,o8,p7,i7,i9,PLoop.of,s8,AV.len,j4,z0u,l4,l5,l6,m8,m9,n5]
 exact⟨hi,hi2,hk,hk2,key,kn,kl,key,kn,kl,rfl⟩
theorem e1f:s5 Tryz.prog 185:=⟨Tryz.f185,Tryz.func185,by kernel_rfl,by kernel_rfl⟩
def d6a (E:List Ev) (R:List Int) (M:List (List Int)) (i k:Int):Prop:=s4 (({ calls:=[kE1 86 rdE,kE1 84 wrE,c04 95 pcM moG (nmG E R M)] }:Kit)).tab Tryz.f185 [grV E R M,.i .i64 i,.i .i64 k] (grM E R M) (m4 (.b (frG E R M i k)))
theorem d4v (E:List Ev) (R:List Int) (M:List (List Int)) (i k:Int):d6a E R M i k=(
 let a:=b7 e0 E k.toNat
 let b:=(0:Int)
 let c:=(↑E.length:Int)
 let d:=(-1:Int)
 (b≤i∧i < c)∧i.toNat < E.length∧(b≤k∧k < c)∧k.toNat < E.length∧((rdE (b7 e0 E i.toNat) && wrE a && (b7 e0 E i.toNat).ob ==a.ob && i !=k)=true→b≤i∧i < (↑R.length:Int))∧((rdE (b7 e0 E i.toNat) && wrE a && (b7 e0 E i.toNat).ob ==a.ob && i !=k)=true→i.toNat < R.length)∧((b7 b R i.toNat ==d)=false→(rdE (b7 e0 E i.toNat) && wrE a && (b7 e0 E i.toNat).ob ==a.ob && i !=k)=true→b≤i∧i < (↑R.length:Int))∧((b7 b R i.toNat ==d)=false→(rdE (b7 e0 E i.toNat) && wrE a && (b7 e0 E i.toNat).ob ==a.ob && i !=k)=true→i.toNat < R.length)∧((b7 b R i.toNat ==d)=false→(rdE (b7 e0 E i.toNat) && wrE a && (b7 e0 E i.toNat).ob ==a.ob && i !=k)=true→E.length=E.length)∧((b7 b R i.toNat ==d)=false→(rdE (b7 e0 E i.toNat) && wrE a && (b7 e0 E i.toNat).ob ==a.ob && i !=k)=true→R.length=R.length)∧((b7 b R i.toNat ==d)=false→(rdE (b7 e0 E i.toNat) && wrE a && (b7 e0 E i.toNat).ob ==a.ob && i !=k)=true→M.length=M.length)∧((b7 b R i.toNat ==d)=false→(rdE (b7 e0 E i.toNat) && wrE a && (b7 e0 E i.toNat).ob ==a.ob && i !=k)=true→nE E)∧((b7 b R i.toNat ==d)=false→(rdE (b7 e0 E i.toNat) && wrE a && (b7 e0 E i.toNat).ob ==a.ob && i !=k)=true→nI R)∧((b7 b R i.toNat ==d)=false→(rdE (b7 e0 E i.toNat) && wrE a && (b7 e0 E i.toNat).ob ==a.ob && i !=k)=true→nR M)∧((b7 b R i.toNat ==d)=false→(rdE (b7 e0 E i.toNat) && wrE a && (b7 e0 E i.toNat).ob ==a.ob && i !=k)=true→((b≤b7 b R i.toNat∧b7 b R i.toNat < c)∧b≤k∧k < c)∧(∀(r:List Int),List.Mem r M→r.length≤(1099511627776:Nat))∧∀(i:Int),b≤i→i < c→wrE (evA E i)=true→b≤(evA E
 i).ob∧(evA E i).ob < (↑M.length:Int))∧(rdE (b7 e0 E i.toNat) && wrE a && (b7 e0 E i.toNat).ob ==a.ob && i !=k && (b7 b R i.toNat ==d || moG E R M (b7 b R i.toNat) k))=frG E R M i k):=by kernel_rfl
theorem v185 (E:List Ev) (R:List Int) (M:List (List Int)) (i k:Int) (h:pcF E R M i k):d6a E R M i k:=by
 rw[d4v]
 obtain⟨⟨hi,hk⟩,hM,hR,hF⟩:=h
 have hi2:=a10 hi
 have hk2:=a10 hk
 have hiR:0≤i∧i < R.length:=by omega
 have hiR2:=a10 hiR
 simp only[eq_self,true_and,and_true,z0o,imp_self,o6,o8,p7,i7,i9,PLoop.of,s8,AV.len,j4,z0u,l4,l5,l6,m8,m9,n5]
 refine⟨hi,hi2,hk,hk2,fun _=>hiR,fun _=>hiR2,fun _ _=>hiR,fun _ _=>hiR2,fun h1 h2=>⟨⟨?_,hk⟩,hM.1,hM.2⟩,rfl⟩
 simp only[z0d] at h2
 rcases hF i hi.1 hi.2 h2.1.1.1 with h3 | h3
 ·simp only[inA] at h3; rw[h3] at h1; simp at h1
 ·exact h3
theorem n184 (nm:List (Option AV)):CallOk Tryz.prog [] 184 (q6 EL none nm [PG,.lf .i,.lf .i] (b5k pcE poG)):=z4 Tryz.func184 e1e fun av pre rv h=>by
 unfold b5k at h; split at h <;> cases h
 exact⟨⟨rfl,fun t a e=>by cases e <;> exact z0h _ _⟩,fun hp=>⟨_,v184 _ _ _ _ _ (hp _ (.head _)),rfl,v4,v5⟩⟩
theorem n94 (nm:List (Option AV)):CallOk Tryz.prog [] 94 (q6 EL none nm [PG,.lf .i,.lf .i] (b5k pcE syG)):=z4 Tryz.func94 fo94 fun av pre rv h=>by
 unfold b5k at h; split at h <;> cases h
 exact⟨⟨rfl,fun t a e=>by cases e <;> exact z0h _ _⟩,fun hp=>⟨_,v94 _ _ _ _ _ (hp _ (.head _)),rfl,(o5 (n139 _) (o5 (n140 _) v4)),v5⟩⟩
theorem n95 (nm:List (Option AV)):CallOk Tryz.prog [] 95 (q6 EL none nm [PG,.lf .i,.lf .i] (b5k pcM moG)):=z4 Tryz.func95 fo95 fun av pre rv h=>by
 unfold b5k at h; split at h <;> cases h
 exact⟨⟨rfl,fun t a e=>by cases e <;> exact z0h _ _⟩,fun hp=>⟨_,v95 _ _ _ _ _ (hp _ (.head _)),rfl,(o5 (n84 _) (o5 (n66 _) v4)),v5⟩⟩
theorem n185 (nm:List (Option AV)):CallOk Tryz.prog [] 185 (q6 EL none nm [PG,.lf .i,.lf .i] (b5k pcF frG)):=z4 Tryz.func185 e1f fun av pre rv h=>by
 unfold b5k at h; split at h <;> cases h
 exact⟨⟨rfl,fun t a e=>by cases e <;> exact z0h _ _⟩,fun hp=>⟨_,v185 _ _ _ _ _ (hp _ (.head _)),rfl,(o5 (n86 _) (o5 (n84 _) (o5 (n95 _) v4))),v5⟩⟩
def a5z (E:List Ev) (R:List Int) (i:Int):Nat→Int→Bool
 | 0,_=>false
 | f + 1,x=>bif decide (x < 0) then false else bif x == i then true else bif (evA E x).k == 5 then a5z E R i f (inA R x) else false
def swG:GF:=fun E R _ i k=>wrE (evA E i) && (evA E i).od == 2 && rdE (evA E k) && (evA E k).od == 2 && a5z E R i (E.length + 1) (inA R k)
def atF (R:List Int) (x:Int):Nat→Int
 | 0=>x
 | s + 1=>inA R (atF R x s)
def b3p (E:List Ev) (R:List Int):Prop:=R.length=E.length∧∀ j:Int,0≤j→j < E.length→inA R j < E.length
def pcS:GP:=fun E R _ i k=>b1e E i k∧b3p E R∧L40 E.length
def d26 (E:List Ev) (R:List Int) (i k:Int) (t x:Nat):LAnn where
 X:=Nat
 inv:=fun s=>s≤E.length + 1∧a5z E R i (E.length + 1) (inA R k)=a5z E R i (E.length + 1 - s) (atF R (inA R k) s)∧atF R (inA R k) s < E.length
 slots:=fun s=>[(t,.i .i64 (s:Int)),(x,.i .i64 (atF R (inA R k) s))]
 mem:=fun _=>[]
 mu:=fun s=>E.length + 1 - s
 kill:=[]
def a20 (E:List Ev) (R:List Int) (i:Int):Bool:=
 bif !rdE (evA E i) then inA R i == -2 else bif decide (inA R i < 0) || decide (inA R i ≥ E.length) then inA R i == -1 else inA R i != i && wrE (evA E (inA R i)) && (evA E (inA R i)).ob == (evA E i).ob
def d7x:SpG:=fun
 | [.ag [.es E,.is R,.rs M],.lf (.i i)]=>some ([(0≤i∧i < E.length)∧R.length=E.length],.rv (.pl (.b (a20 E R i))))
 | _=>none
def kSrc (nm:List (Option AV)):Nat × (List MBlk→List SV→Option AR):=(83,q6 EL none nm [PG,.lf .i] d7x)
def a4r (c:Int):GF:=fun E R M i k=>bif c == 112 then poG E R M i k else bif c == 114 then rfG E R M i k else bif c == 109 then moG E R M i k else bif c == 102 then frG E R M i k else bif c == 115 then syG E R M i k else swG E R M i k
def GOk (E:List Ev) (R:List Int) (M:List (List Int)):Prop:=a9c E M∧b3p E R∧L40 E.length∧∀ j:Int,0≤j→j < E.length→rdE (evA E j)=true→inA R j = -1∨(0≤inA R j∧inA R j < E.length)
def pcG:GP:=fun E R M i k=>b1e E i k∧GOk E R M
def d7b:SpG:=fun
 | [.ag [.es E,.is R,.rs M],.c c,.lf (.i i),.lf (.i k)]=>some ([pcG E R M i k],.rv (.pl (.b (a4r c E R M i k))))
 | _=>none
def kBel (nm:List (Option AV)):Nat × (List MBlk→List SV→Option AR):=(145,q6 EL none nm [PG,.c,.lf .i,.lf .i] d7b)
def a50 (s:ByteArray) (f:Int→Bool):Nat→Bool
 | 0=>false
 | c + 1=>a50 s f c || f (c1l s c)
def l9 (s:ByteArray):GF:=fun E R M i k=>a50 s (fun c=>a4r c E R M i k) s.size
theorem e1g:s5 Tryz.prog 186:=⟨Tryz.f186,Tryz.func186,by kernel_rfl,by kernel_rfl⟩
def d6b (E:List Ev) (R:List Int) (M:List (List Int)) (i k:Int):Prop:=s4 (({ calls:=[kE1 84 wrE,kE1 86 rdE],loops:=[(0,.of (d26 E R i k 10 9))] }:Kit)).tab Tryz.f186 [grV E R M,.i .i64 i,.i .i64 k] (grM E R M) (m4 (.b (swG E R M i k)))
theorem d4w (E:List Ev) (R:List Int) (M:List (List Int)) (i k:Int):d6b E R M i k=(
 let a:=b7 e0 E i.toNat
 let b:=b7 e0 E k.toNat
 let c:=a.ag=a.ag∧a.ix=a.ix∧a.k=a.k∧a.ob=a.ob∧a.mu=a.mu∧a.en=a.en∧a.od=a.od∧a.rd=a.rd∧a.wr=a.wr
 let d:=inA R k
 let e:=(↑E.length:Int)
 let f:=b.ag=b.ag∧b.ix=b.ix∧b.k=b.k∧b.ob=b.ob∧b.mu=b.mu∧b.en=b.en∧b.od=b.od∧b.rd=b.rd∧b.wr=b.wr
 let g:=!wrE a || a.od !=(2:Int) || !rdE b
 let h:=!wrE a || a.od !=(2:Int)
 let j:=E.length=E.length∧R.length=R.length∧M.length=M.length
 let l:=(0:Int)
 let m:=!wrE a || a.od !=(2:Int) || !rdE b || b.od !=(2:Int)
 let n:=(1:Nat)
 let o:=PLoop.of (d26 E R i k (10:Nat) (9:Nat))
 let p:=E.length + n
 (l≤i∧i < e)∧i.toNat < E.length∧(l≤k∧k < e)∧k.toNat < E.length∧(m=true→false=swG E R M i k)∧(m=false→(l≤k∧k < (↑R.length:Int))∧k.toNat < R.length∧∃(x:PUnit),(∃(x:Nat),(x≤E.length + n∧a5z E R i p d=a5z E R i (E.length + n - x) (atF R d x)∧atF R d x < e)∧(l=(↑x:Int)∧b7 l R k.toNat=atF R d x∧True)∧True)∧∀(x_1:Nat),x_1≤E.length + n∧a5z E R i p d=a5z E R i (E.length + n - x_1) (atF R d x_1)∧atF R d x_1 < e→((decide ((↑x_1:Int)≤e) && decide (atF R d x_1 ≥ l))=true→((atF R d x_1 ==i)=true→true=swG E R M i k)∧((atF R d x_1 ==i)=false→(l≤atF R d x_1∧atF R d x_1 < e)∧(atF R d x_1).toNat < E.length∧(((b7 e0 E (atF R d x_1).toNat).k !=(5:Int))=true→false=swG E R M i k)∧(((b7 e0 E (atF R d x_1).toNat).k !=(5:Int))=false→(l≤atF R d x_1∧atF R d x_1 < (↑R.length:Int))∧(atF R d x_1).toNat < R.length∧∃(x_2:Nat),(x_2≤E.length + n∧a5z E R i p d=a5z E R i (E.length + n - x_2) (atF R d x_2)∧atF R d x_2 < e)∧(o.ann x).mu x_2 < (o.ann x).mu x_1∧(j∧i=i∧k=k∧True∧True∧True∧b7 l R (atF R d x_1).toNat=atF R d x_2∧IntKind.i64.wrap ((↑x_1:Int) + (1:Int))=(↑x_2:Int)∧True∧E.length=E.length∧i=i∧i.toNat=i.toNat∧c∧True∧E.length=E.length∧k=k∧k.toNat=k.toNat∧f∧c∧wrE a=wrE a∧(!wrE a) =!wrE a∧(!wrE a) =!wrE a∧h=h∧h=h∧g=g∧g=g∧false=false∧True∧R.length=R.length∧k=k∧k.toNat=k.toNat∧b7 l R k.toNat=b7 l R k.toNat∧True)∧eqA E.length (i6 E)∧eqA R.length (e8 R)∧eqA M.length (i4 M)∧j∧c∧f∧True)))∧((decide ((↑x_1:Int)≤e) && decide (atF R d x_1 ≥ l))=false→false=swG E R M i k))):=by kernel_rfl
theorem v186 (E:List Ev) (R:List Int) (M:List (List Int)) (i k:Int) (h:pcS E R M i k):d6b E R M i k:=by
 rw[d4w]
 obtain⟨⟨hi,hk⟩,⟨hR,hX⟩,hL⟩:=h
 have hL':E.length≤1099511627776:=hL
 have hkR:0≤k∧k < R.length:=by omega
 have n1:=a10 hi
 have n2:=a10 hk
 have n3:=a10 hkR
 simp only[eq_self,true_and,and_true,z0o,imp_self,o6,o8,p7,i7,i9,PLoop.of,s8,AV.len,j4,z0u,l4,l5,l6,m8,m9,n5,d26]
 refine⟨hi,n1,hk,n2,fun hc=>?_,fun hc=>?_⟩
 ·simp only[swG,evA]
  revert hc
  generalize wrE (b7 e0 E i.toNat)=p
  generalize rdE (b7 e0 E k.toNat)=q
  cases p <;> cases q <;> simp <;> grind
 have hsw:swG E R M i k=a5z E R i (E.length + 1) (inA R k):=by
  simp only[z1j,z3b,bne_eq_false_iff_eq] at hc
  obtain⟨⟨⟨h1,h2⟩,h3⟩,h4⟩:=hc
  simp[swG,evA,h1,h2,h3,h4]
 refine⟨hkR,n3,(),⟨0,⟨by omega,rfl,hX k hk.1 hk.2⟩,rfl,rfl⟩,fun s hs=>?_⟩
 obtain⟨hs1,hs2,hs3⟩:=hs
 rw[hsw]
 generalize a5z E R i (E.length + 1) (inA R k)=res at *
 refine⟨fun hcd=>?_,fun hcd=>?_⟩
 ·simp only[z0d,z1m] at hcd
  obtain⟨hc1,hc2⟩:=hcd
  have hf:E.length + 1 - s=(E.length - s) + 1:=by omega
  have hneg:decide (atF R (inA R k) s < 0)=false:=by simp; omega
  rw[hf,a5z,hneg,z0l] at hs2
  have b1:0≤atF R (inA R k) s∧atF R (inA R k) s < E.length:=⟨hc2,hs3⟩
  have b2:0≤atF R (inA R k) s∧atF R (inA R k) s < R.length:=by omega
  refine⟨fun he=>?_,fun he=>⟨b1,a10 b1,fun h5=>?_,fun h5=>⟨b2,a10 b2,s + 1,⟨by omega,?_,hX _ b1.1 b1.2⟩,by omega,rfl,?_⟩⟩⟩
  ·rw[hs2,he]; rfl
  ·rw[hs2,he,z0l]
   have:((evA E (atF R (inA R k) s)).k == 5)=false:=by simpa [evA] using h5
   rw[this]; rfl
  ·rw[hs2,he,z0l]
   have:((evA E (atF R (inA R k) s)).k == 5)=true:=by simpa [evA] using h5
   rw[this,z0f,show E.length + 1 - (s + 1)=E.length - s by omega]
   rfl
  ·rw[a4x (by omega) (by omega)]; push_cast; rfl
 ·rw[hs2]
  by_cases hf:s=E.length + 1
  ·rw[hf,Nat.sub_self]; rfl
  ·rw[show E.length + 1 - s=(E.length - s) + 1 by omega,a5z]
   have hneg:decide (atF R (inA R k) s < 0)=true:=by
    simp only[Bool.and_eq_false_iff,z1k] at hcd
    rcases hcd with h | h
    ·omega
    ·simp; omega
   rw[hneg]; rfl
theorem e14:s5 Tryz.prog 145:=⟨Tryz.f145,Tryz.func145,by kernel_rfl,by kernel_rfl⟩
def d63 (E:List Ev) (R:List Int) (M:List (List Int)) (c i k:Int):Prop:=s4 (({ calls:=[c04 184 pcE poG (nmG E R M),c04 95 pcM moG (nmG E R M),c04 185 pcF frG (nmG E R M),c04 94 pcE syG (nmG E R M),c04 186 pcS swG (nmG E R M)] }:Kit)).tab Tryz.f145 [grV E R M,.i .u8 c,.i .i64 i,.i .i64 k] (grM E R M) (m4 (.b (a4r c E R M i k)))
theorem d4k (E:List Ev) (R:List Int) (M:List (List Int)) (c i k:Int):d63 E R M c i k=(
 let a:=(↑E.length:Int)
 let b:=(0:Int)
 let d:=(1099511627776:Nat)
 ((c ==(112:Int))=true→E.length=E.length∧R.length=R.length∧M.length=M.length∧nE E∧nI R∧nR M∧((b≤i∧i < a)∧b≤k∧k < a)∧poG E R M i k=a4r c E R M i k)∧((c ==(112:Int))=false→((c ==(114:Int))=true→(b≤k∧k < (↑R.length:Int))∧k.toNat < R.length∧(b7 b R k.toNat ==i)=a4r c E R M i k)∧((c ==(114:Int))=false→((c ==(109:Int))=true→E.length=E.length∧R.length=R.length∧M.length=M.length∧nE E∧nI R∧nR M∧(((b≤i∧i < a)∧b≤k∧k < a)∧(∀(r:List Int),List.Mem r M→r.length≤d)∧∀(i:Int),b≤i→i < a→wrE (evA E i)=true→b≤(evA E i).ob∧(evA E i).ob < (↑M.length:Int))∧moG E R M i k=a4r c E R M i k)∧((c ==(109:Int))=false→((c ==(102:Int))=true→E.length=E.length∧R.length=R.length∧M.length=M.length∧nE E∧nI R∧nR M∧(((b≤i∧i < a)∧b≤k∧k < a)∧((∀(r:List Int),List.Mem r M→r.length≤d)∧∀(i:Int),b≤i→i < a→wrE (evA E i)=true→b≤(evA E i).ob∧(evA E i).ob < (↑M.length:Int))∧R.length=E.length∧∀(j:Int),b≤j→j < a→rdE (evA E j)=true→inA R j=(-1:Int)∨b≤inA R j∧inA R j < a)∧frG E R M i k=a4r c E R M i k)∧((c ==(102:Int))=false→((c ==(115:Int))=true→E.length=E.length∧R.length=R.length∧M.length=M.length∧nE E∧nI R∧nR M∧((b≤i∧i < a)∧b≤k∧k < a)∧syG E R M i k=a4r c E R M i k)∧((c ==(115:Int))=false→E.length=E.length∧R.length=R.length∧M.length=M.length∧nE E∧nI R∧nR M∧(((b≤i∧i < a)∧b≤k∧k < a)∧(R.length=E.length∧∀(j:Int),b≤j→j < a→inA R j < a)∧E.length≤d)∧swG E R M i k=a4r c E R M i k)))))):=by kernel_rfl
theorem v145 (E:List Ev) (R:List Int) (M:List (List Int)) (c i k:Int) (h:pcG E R M i k):d63 E R M c i k:=by
 rw[d4k]
 obtain⟨hik,hM,hR,hL,hF⟩:=h
 have hkR:0≤k∧k < R.length:=by have:=hik.2; have:=hR.1; omega
 have n3:=a10 hkR
 simp only[eq_self,true_and,and_true,z0o,imp_self,o6,o8,p7,i7,i9,PLoop.of,s8,AV.len,j4,z0u,l4,l5,l6,m8,m9,n5]
 refine⟨fun h1=>⟨hik,?_⟩,fun h1=>⟨fun h2=>⟨hkR,n3,?_⟩,fun h2=>⟨fun h3=>⟨⟨hik,hM.1,hM.2⟩,?_⟩,fun h3=>⟨fun h4=>⟨⟨hik,⟨hM.1,hM.2⟩,hR.1,hF⟩,?_⟩,fun h4=>⟨fun h5=>⟨hik,?_⟩,fun h5=>⟨⟨hik,⟨hR.1,hR.2⟩,hL⟩,?_⟩⟩⟩⟩⟩⟩
 all_goals (simp only[a4r, *,z0f,z0l]; try rfl)
theorem fo83:s5 Tryz.prog 83:=⟨Tryz.f83,Tryz.func83,by kernel_rfl,by kernel_rfl⟩
def q83D (E:List Ev) (R:List Int) (M:List (List Int)) (i:Int):Prop:=s4 (({ calls:=[kE1 84 wrE,kE1 86 rdE] }:Kit)).tab Tryz.f83 [grV E R M,.i .i64 i] (grM E R M) (m4 (.b (a20 E R i)))
theorem d9i (E:List Ev) (R:List Int) (M:List (List Int)) (i:Int):q83D E R M i=(
 let a:=(0:Int)
 let b:=b7 e0 E (b7 a R i.toNat).toNat
 let c:=decide (b7 a R i.toNat < a) || decide (b7 a R i.toNat ≥ (↑E.length:Int))
 let d:=(↑E.length:Int)
 let e:=b7 e0 E i.toNat
 let f:=b7 a R i.toNat !=i && wrE b
 (a≤i∧i < d)∧i.toNat < E.length∧(a≤i∧i < (↑R.length:Int))∧i.toNat < R.length∧((!rdE e)=true→(b7 a R i.toNat ==(-2:Int))=a20 E R i)∧((!rdE e)=false→(c=true→(b7 a R i.toNat ==(-1:Int))=a20 E R i)∧(c=false→((b7 a R i.toNat !=i)=true→a≤b7 a R i.toNat∧b7 a R i.toNat < d)∧((b7 a R i.toNat !=i)=true→(b7 a R i.toNat).toNat < E.length)∧(f=true→a≤b7 a R i.toNat∧b7 a R i.toNat < d)∧(f=true→(b7 a R i.toNat).toNat < E.length)∧(b7 a R i.toNat !=i && wrE b && b.ob ==e.ob)=a20 E R i))):=by kernel_rfl
theorem v83 (E:List Ev) (R:List Int) (M:List (List Int)) (i:Int) (h:(0≤i∧i < E.length)∧R.length=E.length):q83D E R M i:=by
 rw[d9i]
 obtain⟨hi,hR⟩:=h
 have hiR:0≤i∧i < R.length:=by omega
 have n1:=a10 hi
 have n2:=a10 hiR
 have hb:((decide (b7 0 R i.toNat < 0) || decide (b7 0 R i.toNat ≥ E.length))=false)→0≤b7 0 R i.toNat∧b7 0 R i.toNat < E.length:=fun h=>by
  simp only[z1j,z1k] at h; omega
 refine⟨hi,n1,hiR,n2,fun h1=>?_,fun h1=>⟨fun h2=>?_,fun h2=>⟨fun _=>hb h2,fun _=>a10 (hb h2),fun _=>hb h2,fun _=>a10 (hb h2),?_⟩⟩⟩
 ·simp only[a20,evA,h1,z0f]; rfl
 ·simp only[a20,evA,inA,h1,z0l]
  erw [h2]
  rfl
 ·simp only[a20,evA,inA,h1,z0l]
  erw [h2]
  rfl
theorem n186 (nm:List (Option AV)):CallOk Tryz.prog [] 186 (q6 EL none nm [PG,.lf .i,.lf .i] (b5k pcS swG)):=z4 Tryz.func186 e1g fun av pre rv h=>by
 unfold b5k at h; split at h <;> cases h
 exact⟨⟨rfl,fun t a e=>by cases e <;> exact z0h _ _⟩,fun hp=>⟨_,v186 _ _ _ _ _ (hp _ (.head _)),rfl,(o5 (n84 _) (o5 (n86 _) v4)),v5⟩⟩
theorem n83 (nm:List (Option AV)):CallOk Tryz.prog [] 83 (q6 EL none nm [PG,.lf .i] d7x):=z4 Tryz.func83 fo83 fun av pre rv h=>by
 unfold d7x at h; split at h <;> cases h
 exact⟨⟨rfl,fun t a e=>by cases e <;> exact z0h _ _⟩,fun hp=>⟨_,v83 _ _ _ _ (hp _ (.head _)),rfl,(o5 (n84 _) (o5 (n86 _) v4)),v5⟩⟩
theorem n145 (nm:List (Option AV)):CallOk Tryz.prog [] 145 (q6 EL none nm [PG,.c,.lf .i,.lf .i] d7b):=z4 Tryz.func145 e14 fun av pre rv h=>by
 unfold d7b at h; split at h <;> cases h
 exact⟨⟨rfl,fun t a e=>by cases e <;> exact z0h _ _⟩,fun hp=>⟨_,v145 _ _ _ _ _ _ (hp _ (.head _)),rfl,(o5 (n184 _) (o5 (n95 _) (o5 (n185 _) (o5 (n94 _) (o5 (n186 _) v4))))),v5⟩⟩
def d27 (s:ByteArray) (E:List Ev) (R:List Int) (M:List (List Int)) (t b:Nat):PLoop:=⟨Nat × Nat,fun p=>{ X:=Nat,inv:=fun c=>c≤s.size∧p.1 < E.length∧p.2 < E.length,slots:=fun c=>[(t,.i .i64 (c:Int)),(b,.b (a50 s (fun q=>a4r q E R M p.1 p.2) c))],mem:=fun _=>[],mu:=fun c=>s.size - c,kill:=[] }⟩
def d7y:SpG:=fun
 | [.ag [.es E,.is R,.rs M],.st s]=>some ([GOk E R M∧E.length≤64∧L40 s.size],b0u E.length (b9 E.length (l9 s E R M)))
 | _=>none
def kUni (nm:List (Option AV)):Nat × (List MBlk→List SV→Option AR):=(107,q6 EL none nm [PG,.st] d7y)
theorem e0b:s5 Tryz.prog 107:=⟨Tryz.f107,Tryz.func107,by kernel_rfl,by kernel_rfl⟩
def d5i (E:List Ev) (R:List Int) (M:List (List Int)) (s:ByteArray):Prop:=s4 (({ calls:=[kBel (nmG E R M)],loops:=[(0,.of (a65 E.length (l9 s E R M) 6 5 6)),(2,a44 E.length (l9 s E R M) 7 5 6),(4,d27 s E R M 9 8)],takes:=[(2,fun _ _=>[.fresh 5 1 67 2])] }:Kit)).tab Tryz.f107 [grV E R M,.v (.string s)] (grM E R M) ((b0u E.length (b9 E.length (l9 s E R M))).post EL)
theorem d3u (E:List Ev) (R:List Int) (M:List (List Int)) (s:ByteArray):d5i E R M s=(
 let a:=l9 s E R M
 let b:=(↑E.length:Int)
 let c:=E.length=E.length∧R.length=R.length∧M.length=M.length
 let d:=((0:Int),(0:Int))
 let e:=a44 E.length a (7:Nat) (5:Nat) (6:Nat)
 let f:=(0:Int)
 let g:=PLoop.of (a65 E.length a (6:Nat) (5:Nat) (6:Nat))
 let h:=AV.ps (b9 b a)
 let k:=b=b∧True
 let l:=f=f∧True
 let m:=d27 s E R M (9:Nat) (8:Nat)
 let n:=(↑s.size:Int)
 let o:=(1:Nat)
 ∃(x:PUnit),(∃(x:Nat),(x≤E.length∧True)∧(f=(↑x:Int)∧True)∧(b=b∧(0:Nat)=(d8 a E.length x).length)∧((0:Nat)=(d8 a E.length x).length∧(d8 a E.length x).length=(0:Nat)∧(d8 a E.length x).length=(0:Nat)∧True)∧True)∧∀(x_1:Nat),x_1≤E.length∧True→(decide ((↑x_1:Int) < b)=true→∃(x_2:Nat),(∃(x:Nat),(x≤E.length∧x_2 < E.length)∧(f=(↑x:Int)∧True)∧(b=b∧(d8 a E.length x_1).length=(d8 a E.length x_2 ++ e9 a x_2 x).length)∧((d8 a E.length x_1).length=(d8 a E.length x_2 ++ e9 a x_2 x).length∧(∀(j:Nat),j < (d8 a E.length x_2 ++ e9 a x_2 x).length→(b7 d (d8 a E.length x_1) j).fst=(b7 d (d8 a E.length x_2 ++ e9 a x_2 x) j).fst)∧(∀(j:Nat),j < (d8 a E.length x_2 ++ e9 a x_2 x).length→(b7 d (d8 a E.length x_1) j).snd=(b7 d (d8 a E.length x_2 ++ e9 a x_2 x) j).snd)∧True)∧True)∧∀(x_3:Nat),x_3≤E.length∧x_2 < E.length→(decide ((↑x_3:Int) < b)=true→∃(x:Nat × Nat),(∃(x_4:Nat),(x_4≤s.size∧x.fst < E.length∧x.snd < E.length)∧(f=(↑x_4:Int)∧false=a50 s (fun(q:Int)=>a4r q E R M (↑x.fst:Int) (↑x.snd:Int)) x_4∧True)∧True)∧∀(x_4:Nat),x_4≤s.size∧x.fst < E.length∧x.snd < E.length→(decide ((↑x_4:Int) < n)=true→(a50 s (fun(q:Int)=>a4r q E R M (↑x.fst:Int) (↑x.snd:Int)) x_4=false→f≤(↑x_4:Int)∧(↑x_4:Int) < n)∧(a50 s (fun(q:Int)=>a4r q E R M (↑x.fst:Int) (↑x.snd:Int)) x_4=false→E.length=E.length)∧(a50 s (fun(q:Int)=>a4r q E R M (↑x.fst:Int) (↑x.snd:Int)) x_4=false→R.length=R.length)∧(a50 s (fun(q:Int)=>a4r q E R M (↑x.fst:Int) (↑x.snd:Int)) x_4=false→M.length=M.length)∧(a50 s (fun(q:Int)=>a4r q E R M (↑x.fst:Int)
 (↑x.snd:Int)) x_4=false→nE E)∧(a50 s (fun(q:Int)=>a4r q E R M (↑x.fst:Int) (↑x.snd:Int)) x_4=false→nI R)∧(a50 s (fun(q:Int)=>a4r q E R M (↑x.fst:Int) (↑x.snd:Int)) x_4=false→nR M)∧(a50 s (fun(q:Int)=>a4r q E R M (↑x.fst:Int) (↑x.snd:Int)) x_4=false→((f≤(↑x_1:Int)∧(↑x_1:Int) < b)∧f≤(↑x_3:Int)∧(↑x_3:Int) < b)∧((∀(r:List Int),List.Mem r M→r.length≤(1099511627776:Nat))∧∀(i:Int),f≤i→i < b→wrE (evA E i)=true→f≤(evA E i).ob∧(evA E i).ob < (↑M.length:Int))∧(R.length=E.length∧∀(j:Int),f≤j→j < b→inA R j < b)∧E.length≤(1099511627776:Nat)∧∀(j:Int),f≤j→j < b→rdE (evA E j)=true→inA R j=(-1:Int)∨f≤inA R j∧inA R j < b)∧∃(x_5:Nat),(x_5≤s.size∧x.fst < E.length∧x.snd < E.length)∧(m.ann x).mu x_5 < (m.ann x).mu x_4∧(c∧Value.string s=Value.string s∧True∧True∧True∧(↑x_1:Int)=(↑x_1:Int)∧(↑x_3:Int)=(↑x_3:Int)∧(a50 s (fun(q:Int)=>a4r q E R M (↑x.fst:Int) (↑x.snd:Int)) x_4 || a4r (c1l s (↑x_4:Int)) E R M (↑x_1:Int) (↑x_3:Int))=a50 s (fun(q:Int)=>a4r q E R M (↑x.fst:Int) (↑x.snd:Int)) x_5∧IntKind.i64.wrap ((↑x_4:Int) + (1:Int))=(↑x_5:Int)∧True∧E.length=E.length∧b=b∧k∧(↑x_1:Int)=(↑x_1:Int)∧True∧E.length=E.length∧b=b∧true=true∧(↑x_3:Int)=(↑x_3:Int)∧True∧E.length=E.length∧b=b∧true=true∧True)∧eqA E.length (i6 E)∧eqA R.length (e8 R)∧eqA M.length (i4 M)∧c∧l∧(b=b∧(d8 a E.length x_2 ++ e9 a x_2 x_3).length=(d8 a E.length x_2 ++ e9 a x_2 x_3).length)∧eqA (d8 a E.length x_2 ++ e9 a x_2 x_3).length [Col.int IntKind.i64 fun(j:Nat)=>(b7 d (d8 a E.length x_2 ++ e9 a x_2 x_3) j).fst,Col.int IntKind.i64
 fun(j:Nat)=>(b7 d (d8 a E.length x_2 ++ e9 a x_2 x_3) j).snd]∧True)∧(decide ((↑x_4:Int) < n)=false→(a50 s (fun(q:Int)=>a4r q E R M (↑x.fst:Int) (↑x.snd:Int)) x_4=true→(d8 a E.length x_2 ++ e9 a x_2 x_3).length=(d8 a E.length x_2 ++ e9 a x_2 x_3).length∧o=o∧((d8 a E.length x_2 ++ e9 a x_2 x_3).length + o) * (16:Nat)≤(140737488355328:Nat)∧(d8 a E.length x_2 ++ e9 a x_2 x_3).length + o≤(9223372036854775807:Nat)∧∃(x:Nat),(x≤E.length∧x_2 < E.length)∧(e.ann x_2).mu x < (e.ann x_2).mu x_3∧(c∧Value.string s=Value.string s∧True∧True∧True∧(↑x_1:Int)=(↑x_1:Int)∧IntKind.i64.wrap ((↑x_3:Int) + (1:Int))=(↑x:Int)∧True∧E.length=E.length∧b=b∧k∧(↑x_1:Int)=(↑x_1:Int)∧True∧E.length=E.length∧b=b∧true=true∧True)∧eqA E.length (i6 E)∧eqA R.length (e8 R)∧eqA M.length (i4 M)∧c∧l∧(b=b∧(d8 a E.length x_2 ++ e9 a x_2 x_3).length + o=(d8 a E.length x_2 ++ e9 a x_2 x).length)∧((d8 a E.length x_2 ++ e9 a x_2 x_3).length + o=(d8 a E.length x_2 ++ e9 a x_2 x).length∧(∀(j:Nat),j < (d8 a E.length x_2 ++ e9 a x_2 x).length→(bif j.blt (d8 a E.length x_2 ++ e9 a x_2 x_3).length then(b7 d (d8 a E.length x_2 ++ e9 a x_2 x_3) j).fst else g8 [(↑x_1:Int)] (j - (d8 a E.length x_2 ++ e9 a x_2 x_3).length))=(b7 d (d8 a E.length x_2 ++ e9 a x_2 x) j).fst)∧(∀(j:Nat),j < (d8 a E.length x_2 ++ e9 a x_2 x).length→(bif j.blt (d8 a E.length x_2 ++ e9 a x_2 x_3).length then(b7 d (d8 a E.length x_2 ++ e9 a x_2 x_3) j).snd else g8 [(↑x_3:Int)] (j - (d8 a E.length x_2 ++ e9 a x_2 x_3).length))=(b7 d (d8 a E.length x_2 ++ e9 a x_2
 x) j).snd)∧True)∧True)∧(a50 s (fun(q:Int)=>a4r q E R M (↑x.fst:Int) (↑x.snd:Int)) x_4=false→∃(x:Nat),(x≤E.length∧x_2 < E.length)∧(e.ann x_2).mu x < (e.ann x_2).mu x_3∧(c∧Value.string s=Value.string s∧True∧True∧True∧(↑x_1:Int)=(↑x_1:Int)∧IntKind.i64.wrap ((↑x_3:Int) + (1:Int))=(↑x:Int)∧True∧E.length=E.length∧b=b∧k∧(↑x_1:Int)=(↑x_1:Int)∧True∧E.length=E.length∧b=b∧true=true∧True)∧eqA E.length (i6 E)∧eqA R.length (e8 R)∧eqA M.length (i4 M)∧c∧l∧(b=b∧(d8 a E.length x_2 ++ e9 a x_2 x_3).length=(d8 a E.length x_2 ++ e9 a x_2 x).length)∧((d8 a E.length x_2 ++ e9 a x_2 x_3).length=(d8 a E.length x_2 ++ e9 a x_2 x).length∧(∀(j:Nat),j < (d8 a E.length x_2 ++ e9 a x_2 x).length→(b7 d (d8 a E.length x_2 ++ e9 a x_2 x_3) j).fst=(b7 d (d8 a E.length x_2 ++ e9 a x_2 x) j).fst)∧(∀(j:Nat),j < (d8 a E.length x_2 ++ e9 a x_2 x).length→(b7 d (d8 a E.length x_2 ++ e9 a x_2 x_3) j).snd=(b7 d (d8 a E.length x_2 ++ e9 a x_2 x) j).snd)∧True)∧True)))∧(decide ((↑x_3:Int) < b)=false→∃(x_4:Nat),(x_4≤E.length∧True)∧(g.ann x).mu x_4 < (g.ann x).mu x_1∧(c∧Value.string s=Value.string s∧True∧True∧True∧IntKind.i64.wrap ((↑x_1:Int) + (1:Int))=(↑x_4:Int)∧True∧E.length=E.length∧b=b∧k∧True)∧eqA E.length (i6 E)∧eqA R.length (e8 R)∧eqA M.length (i4 M)∧c∧l∧(b=b∧(d8 a E.length x_2 ++ e9 a x_2 x_3).length=(d8 a E.length x_4).length)∧((d8 a E.length x_2 ++ e9 a x_2 x_3).length=(d8 a E.length x_4).length∧(∀(j:Nat),j < (d8 a E.length x_4).length→(b7 d (d8 a E.length x_2 ++ e9 a x_2 x_3) j).fst=(b7 d (d8 a E.length x_4)
 j).fst)∧(∀(j:Nat),j < (d8 a E.length x_4).length→(b7 d (d8 a E.length x_2 ++ e9 a x_2 x_3) j).snd=(b7 d (d8 a E.length x_4) j).snd)∧True)∧True))∧(decide ((↑x_1:Int) < b)=false→(d8 a E.length x_1).length=h.len∧((∀(j:Nat),j < h.len→(b7 d (d8 a E.length x_1) j).fst=(b7 d (b9 b a) j).fst)∧(∀(j:Nat),j < h.len→(b7 d (d8 a E.length x_1) j).snd=(b7 d (b9 b a) j).snd)∧True)∧b=b∧(d8 a E.length x_1).length=h.len∧True)):=by kernel_rfl
theorem v107 (E:List Ev) (R:List Int) (M:List (List Int)) (s:ByteArray) (h:GOk E R M∧E.length≤64∧L40 s.size):d5i E R M s:=by
 rw[d3u]
 obtain⟨hG,hN,hS⟩:=h
 have hS':s.size≤1099511627776:=hS
 have hlen:=b6z (l9 s E R M) (n:=E.length) (by omega)
 simp only[eq_self,true_and,and_true,z0o,imp_self,o6,o8,p7,i7,i9,PLoop.of,s8,AV.len,j4,z0u,l4,l5,l6,m8,m9,n5,a65,a44,d27,PLoop.of,p7]
 refine⟨(),⟨0,by simp,rfl,?_⟩,fun a ha=>⟨fun hlt=>⟨a,⟨0,?_⟩,fun b hb=>⟨fun hlb=>?_,fun hlb=>?_⟩⟩,fun hlt=>?_⟩⟩
 ·simp[a2p]
 ·have ha2:a < E.length:=by have:=z0e hlt; omega
  simp[a4b,ha2]
 ·have hb2:b < E.length:=by have:=z0e hlb; omega
  have ha2:a < E.length:=hb.2
  refine⟨(a,b),⟨0,⟨by omega,ha2,hb2⟩,rfl,rfl⟩,fun c hc=>⟨fun hlc=>?_,fun hlc=>⟨fun hf=>?_,fun hf=>?_⟩⟩⟩
  ·have hc2:c < s.size:=by have:=z0e hlc; omega
   exact⟨fun _=>⟨by omega,by omega⟩,fun _=>⟨⟨⟨by omega,by omega⟩,⟨by omega,by omega⟩⟩,⟨hG.1.1,hG.1.2⟩,⟨hG.2.1.1,hG.2.1.2⟩,hG.2.2.1,hG.2.2.2⟩,c + 1,⟨by omega,ha2,hb2⟩,by omega,rfl,wrS (n:=s.size) hc2 hS'⟩
  ·have hc2:c=s.size:=by have:=z0i hlc; omega
   rw[hc2] at hf
   replace hf:l9 s E R M a b=true:=hf
   have h1:=hlen a b hb.2 hb.1
   have e:e9 (l9 s E R M) a (b + 1)=e9 (l9 s E R M) a b ++ [((a:Int),(b:Int))]:=by rw[a0e,if_pos hf]
   have e2:d8 (l9 s E R M) E.length a ++ e9 (l9 s E R M) a (b + 1)=(d8 (l9 s E R M) E.length a ++ e9 (l9 s E R M) a b) ++ [((a:Int),(b:Int))]:=by rw[e,z1x]
   refine⟨by omega,by omega,b + 1,⟨by omega,hb.2⟩,by omega,wrS (n:=E.length) hb2 (by omega),?_⟩
   rw[e2]
   have e3:(d8 (l9 s E R M) E.length a ++ e9 (l9 s E R M) a b ++ [((a:Int),(b:Int))]).length=(d8 (l9 s E R M) E.length a ++ e9 (l9 s E R M) a b).length + 1:=by rw[z1d (bs:=[((a:Int),(b:Int))])]; rfl
   exact⟨e3.symm,e3.symm,ap1 (·.1) _ _,ap1 (·.2) _ _⟩
  ·have hc2:c=s.size:=by have:=z0i hlc; omega
   rw[hc2] at hf
   replace hf:l9 s E R M a b=false:=hf
   have e:e9 (l9 s E R M) a (b + 1)=e9 (l9 s E R M) a b:=by rw[a0e,if_neg (by rw[hf]; simp),z1n]
   refine⟨b + 1,⟨by omega,hb.2⟩,by omega,wrS (n:=E.length) hb2 (by omega),?_⟩
   rw[e]
   simp
 ·have hb2:b=E.length:=by have:=z0i hlb; omega
  have e:d8 (l9 s E R M) E.length (a + 1)=d8 (l9 s E R M) E.length a ++ e9 (l9 s E R M) a b:=by rw[a1s,hb2]
  refine⟨a + 1,by omega,by omega,wrS (n:=E.length) hb.2 (by omega),?_⟩
  rw[e]
  simp
 ·have ha2:a=E.length:=by have:=z0i hlt; omega
  subst ha2
  rw[a6m]
  exact⟨rfl,⟨fun _ _=>rfl,fun _ _=>rfl⟩,rfl⟩
theorem n107 (nm:List (Option AV)):CallOk Tryz.prog [] 107 (q6 EL none nm [PG,.st] d7y):=z4 Tryz.func107 e0b fun av pre rv h=>by
 unfold d7y at h; split at h <;> cases h
 exact⟨⟨rfl,fun t a e=>by cases e <;> exact z0h _ _⟩,fun hp=>⟨_,v107 _ _ _ _ (hp _ (.head _)),rfl,(o5 (n145 _) v4),v5⟩⟩
def a6f (E:List Ev) (m:Nat) (i:Int):Bool:=
 t4 (evA E i) && (evA E i).k != 3 && (evA E i).k != 4 && (evA E i).en == -1 && (evA E i).ix == c0o E i (evA E i).ag && !((rdE (evA E i) || wrE (evA E i)) && decide ((evA E i).ob ≥ m))
def j8 (f:Int→Bool):Nat→Bool
 | 0=>true
 | j + 1=>j8 f j && f j
theorem x4 {f:Int→Bool}:∀ {n:Nat},j8 f n=true↔∀ i:Nat,i < n→f i=true:=by
 intro n
 induction n with
 | zero=>simp[j8]
 | succ n ih =>
  simp only[j8,z0d,ih]
  constructor
  ·rintro ⟨h1,h2⟩ i hi
   by_cases e:i=n
   ·rw[e]; exact h2
   ·exact h1 i (by omega)
  ·intro h
   exact⟨fun i hi=>h i (by omega),h n (by omega)⟩
theorem a06 {f:Int→Bool} {n j:Nat} (hj:j < n) (h:f j=false):j8 f n=false:=by
 cases e:j8 f n
 ·rfl
 ·rw[x4.1 e j hj] at h; cases h
def a7m (E:List Ev) (m:Nat):Bool:=j8 (a6f E m) E.length
def d7m:SpG:=fun
 | [.ag [.es E,.is R,.rs M]]=>some ([L40 E.length],.rv (.pl (.b (a7m E M.length))))
 | _=>none
def lAl (f:Int→Bool) (n t:Nat):LAnn:=s8 n t (fun j=>j8 f j=true) (fun _=>[]) []
def kLsd (nm:List (Option AV)):Nat × (List MBlk→List SV→Option AR):=(82,q6 EL none nm [PG] d7m)
theorem fo82:s5 Tryz.prog 82:=⟨Tryz.f82,Tryz.func82,by kernel_rfl,by kernel_rfl⟩
def q82D (E:List Ev) (R:List Int) (M:List (List Int)):Prop:=s4 (({ calls:=[kE1 85 t4,kE1 86 rdE,kE1 84 wrE,kNum [some (.es E)]],loops:=[(0,.of (lAl (a6f E M.length) E.length 3))] }:Kit)).tab Tryz.f82 [grV E R M] (grM E R M) (m4 (.b (a7m E M.length)))
theorem d9h (E:List Ev) (R:List Int) (M:List (List Int)):q82D E R M=(
 let a:=E.length=E.length∧R.length=R.length∧M.length=M.length
 let b:=a6f E M.length
 let c:=(↑E.length:Int)
 let d:=PLoop.of (lAl b E.length (3:Nat))
 let e:=(-1:Int)
 ∃(x:PUnit),(∃(x:Nat),(x≤E.length∧j8 b x=true)∧((0:Int)=(↑x:Int)∧True)∧True)∧∀(x_1:Nat),x_1≤E.length∧j8 b x_1=true→(decide ((↑x_1:Int) < c)=true→((0:Int)≤(↑x_1:Int)∧(↑x_1:Int) < c)∧x_1 < E.length∧((!t4 (b7 e0 E x_1) || (b7 e0 E x_1).k ==(3:Int) || (b7 e0 E x_1).k ==(4:Int) || (b7 e0 E x_1).en !=e)=false→E.length=E.length)∧((!t4 (b7 e0 E x_1) || (b7 e0 E x_1).k ==(3:Int) || (b7 e0 E x_1).k ==(4:Int) || (b7 e0 E x_1).en !=e)=false→nE E)∧((!t4 (b7 e0 E x_1) || (b7 e0 E x_1).k ==(3:Int) || (b7 e0 E x_1).k ==(4:Int) || (b7 e0 E x_1).en !=e)=false→((0:Int)≤(↑x_1:Int)∧(↑x_1:Int)≤c)∧E.length≤(1099511627776:Nat))∧((!t4 (b7 e0 E x_1) || (b7 e0 E x_1).k ==(3:Int) || (b7 e0 E x_1).k ==(4:Int) || (b7 e0 E x_1).en !=e || (b7 e0 E x_1).ix !=c0o E (↑x_1:Int) (b7 e0 E x_1).ag)=true→false=a7m E M.length)∧((!t4 (b7 e0 E x_1) || (b7 e0 E x_1).k ==(3:Int) || (b7 e0 E x_1).k ==(4:Int) || (b7 e0 E x_1).en !=e || (b7 e0 E x_1).ix !=c0o E (↑x_1:Int) (b7 e0 E x_1).ag)=false→(((rdE (b7 e0 E x_1) || wrE (b7 e0 E x_1)) && decide ((b7 e0 E x_1).ob ≥ (↑M.length:Int)))=true→false=a7m E M.length)∧(((rdE (b7 e0 E x_1) || wrE (b7 e0 E x_1)) && decide ((b7 e0 E x_1).ob ≥ (↑M.length:Int)))=false→∃(x_2:Nat),(x_2≤E.length∧j8 b x_2=true)∧(d.ann x).mu x_2 < (d.ann x).mu x_1∧(a∧True∧IntKind.i64.wrap ((↑x_1:Int) + (1:Int))=(↑x_2:Int)∧True)∧eqA E.length (i6 E)∧eqA R.length (e8 R)∧eqA M.length (i4 M)∧a∧True)))∧(decide ((↑x_1:Int) < c)=false→true=a7m E M.length)):=by kernel_rfl
theorem v82 (E:List Ev) (R:List Int) (M:List (List Int)) (h:L40 E.length):q82D E R M:=by
 rw[d9h]
 have hL:E.length≤1099511627776:=h
 simp only[eq_self,true_and,and_true,z0o,imp_self,o6,o8,p7,i7,i9,PLoop.of,s8,AV.len,j4,z0u,l4,l5,l6,m8,m9,n5,lAl]
 refine⟨(),⟨0,⟨by omega,rfl⟩,rfl⟩,fun j hj=>⟨fun hlt=>?_,fun hlt=>?_⟩⟩
 ·have h1:j < E.length:=by have:=z0e hlt; omega
  have e:a6f E M.length j=(t4 (b7 e0 E j) && (b7 e0 E j).k != 3 && (b7 e0 E j).k != 4 && (b7 e0 E j).en == -1 && (b7 e0 E j).ix == c0o E j (b7 e0 E j).ag && !((rdE (b7 e0 E j) || wrE (b7 e0 E j)) && decide ((b7 e0 E j).ob ≥ M.length))):=rfl
  refine⟨⟨by omega,by omega⟩,h1,fun _=>⟨⟨by omega,by omega⟩,hL⟩,fun h2=>?_,fun h2=>⟨fun h3=>?_,fun h3=>⟨j + 1,⟨by omega,?_⟩,by omega,wrS (n:=E.length) h1 hL⟩⟩⟩
  ·refine(a06 h1 ?_).symm
   rw[e]; grind
  ·refine(a06 h1 ?_).symm
   rw[e,h3]; simp
  ·simp only[j8,hj.2,z0y]
   rw[e,h3]; grind
 ·have h1:j=E.length:=by have:=z0i hlt; omega
  have:=hj.2
  rw[h1] at this
  exact this.symm
theorem n82 (nm:List (Option AV)):CallOk Tryz.prog [] 82 (q6 EL none nm [PG] d7m):=z4 Tryz.func82 fo82 fun av pre rv h=>by
 unfold d7m at h; split at h <;> cases h
 exact⟨⟨rfl,fun t a e=>by cases e <;> exact z0h _ _⟩,fun hp=>⟨_,v82 _ _ _ (hp _ (.head _)),rfl,(o5 (n85 _) (o5 (n86 _) (o5 (n84 _) (o5 (n124 _) v4)))),v5⟩⟩
end Go.Proofs.YtaeeaniofljmnaaGreatDoor

/-
  A part of the proof (J18).
-/
import Derived.Test.YtaeeaniofljmnaaGreatDoorJ14
namespace Go.Proofs.YtaeeaniofljmnaaGreatDoor
set_option linter.unusedSimpArgs false
set_option linter.unusedVariables false
open Go Go.Proofs.YtaeeaniofljmnaaGreatDoor.Sx
set_option maxRecDepth 100000
def c9g (a b:Ev):Bool:=(decide (b01 a ≥ 0) && b01 a == b01 b) || (decide (a3w a ≥ 0) && a3w a == a3w b)
def syG:GF:=fun E _ _ i k=>decide (i < k) && c9g (evA E i) (evA E k)
def x6 (M:List (List Int)) (o:Int):List Int:=b6 [] M o.toNat
def moB (M:List (List Int)) (a b:Ev) (i k:Int):Bool:=wrE a && wrE b && a.ob == b.ob && decide (y6 (x6 M a.ob) i < y6 (x6 M a.ob) k)
def moG:GF:=fun E _ M i k=>moB M (evA E i) (evA E k) i k
def frG:GF:=fun E R M i k=>rdE (evA E i) && wrE (evA E k) && (evA E i).ob == (evA E k).ob && !(i == k) && (inA R i == -1 || moG E R M (inA R i) k)
def c14 (E:List Ev) (M:List (List Int)):Prop:=(∀ r∈M,L40 r.length)∧∀ i:Int,0≤i→i < E.length→wrE (evA E i)=true→0≤(evA E i).ob∧(evA E i).ob < M.length
def pcM:GP:=fun E _ M i k=>b0s E i k∧c14 E M
def pcF:GP:=fun E R M i k=>b0s E i k∧c14 E M∧R.length=E.length∧∀ j:Int,0≤j→j < E.length→rdE (evA E j)=true→inA R j = -1∨(0≤inA R j∧inA R j < E.length)
def b4x (pc:GP) (fn:GF):SpG:=fun
 | [.ag [.es E,.is R,.rs M],.lf (.i i),.lf (.i k)]=>some ([pc E R M i k],.rv (.pl (.b (fn E R M i k))))
 | _=>none
def c4w (n:Nat) (pc:GP) (fn:GF) (nm:List (Option AV)):Nat × (List MBlk→List SV→Option AR):=(n,o5 EL none nm [PG,.lf .i,.lf .i] (b4x pc fn))
theorem c8o {M:List (List Int)} {o:Int} (h0:0≤o) (h:o < M.length):x6 M o∈M:=by
 have h1:o.toNat < M.length:=by omega
 rw[x6,o6 [] M _ h1]
 exact z1r h1
theorem e06:p8 Tryz.prog 184:=⟨Tryz.f184,Tryz.func184,by kernel_rfl,by kernel_rfl⟩
def d50 (E:List Ev) (R:List Int) (M:List (List Int)) (i k:Int):Prop:=p7 (({}:Kit)).tab Tryz.f184 [grV E R M,.i .i64 i,.i .i64 k] (grM E R M) (l4 (.b (poG E R M i k)))
theorem d3m (E:List Ev) (R:List Int) (M:List (List Int)) (i k:Int):d50 E R M i k=(
 let a:=(b6 e0 E i.toNat).ag ==(b6 e0 E k.toNat).ag && decide (i < k) || (b6 e0 E i.toNat).k ==(16:Int) && (b6 e0 E i.toNat).ob ==(b6 e0 E k.toNat).ag || (b6 e0 E k.toNat).k ==(17:Int) && (b6 e0 E k.toNat).ob ==(b6 e0 E i.toNat).ag
 ((0:Int)≤i∧i < (↑E.length:Int))∧i.toNat < E.length∧((0:Int)≤k∧k < (↑E.length:Int))∧k.toNat < E.length∧(a=true→true=poG E R M i k)∧(a=false→((b6 e0 E i.toNat).k ==(16:Int) && (b6 e0 E k.toNat).k ==(17:Int) && (b6 e0 E i.toNat).ob ==(b6 e0 E k.toNat).ob)=poG E R M i k)):=by kernel_rfl
theorem v184 (E:List Ev) (R:List Int) (M:List (List Int)) (i k:Int) (h:pcE E R M i k):d50 E R M i k:=by
 rw[d3m]
 refine⟨h.1,a0t h.1,h.2,a0t h.2,?_⟩
 simp only[poG,poF,poB,evA]
 grind
theorem fo94:p8 Tryz.prog 94:=⟨Tryz.f94,Tryz.func94,by kernel_rfl,by kernel_rfl⟩
def q94D (E:List Ev) (R:List Int) (M:List (List Int)) (i k:Int):Prop:=p7 (({ calls:=[d0v 139 b01,d0v 140 a3w] }:Kit)).tab Tryz.f94 [grV E R M,.i .i64 i,.i .i64 k] (grM E R M) (l4 (.b (syG E R M i k)))
theorem d8i (E:List Ev) (R:List Int) (M:List (List Int)) (i k:Int):q94D E R M i k=(
 let a:=b6 e0 E i.toNat
 ((0:Int)≤i∧i < (↑E.length:Int))∧i.toNat < E.length∧((0:Int)≤k∧k < (↑E.length:Int))∧k.toNat < E.length∧(decide (i < k) && (decide (b01 a ≥ (0:Int)) && b01 a ==b01 (b6 e0 E k.toNat) || decide (a3w a ≥ (0:Int)) && a3w a ==a3w (b6 e0 E k.toNat)))=syG E R M i k):=by kernel_rfl
theorem v94 (E:List Ev) (R:List Int) (M:List (List Int)) (i k:Int) (h:pcE E R M i k):q94D E R M i k:=by
 rw[d8i]
 refine⟨h.1,a0t h.1,h.2,a0t h.2,?_⟩
 simp only[syG,c9g,evA]
 first | rfl | grind
theorem fo95:p8 Tryz.prog 95:=⟨Tryz.f95,Tryz.func95,by kernel_rfl,by kernel_rfl⟩
def q95D (E:List Ev) (R:List Int) (M:List (List Int)) (i k:Int):Prop:=p7 (({ calls:=[kE1 84 wrE,c4v 66 []] }:Kit)).tab Tryz.f95 [grV E R M,.i .i64 i,.i .i64 k] (grM E R M) (l4 (.b (moG E R M i k)))
theorem d8j (E:List Ev) (R:List Int) (M:List (List Int)) (i k:Int):q95D E R M i k=(
 let a:=wrE (b6 e0 E i.toNat) && wrE (b6 e0 E k.toNat) && (b6 e0 E i.toNat).ob ==(b6 e0 E k.toNat).ob
 let b:=b6 [] M (b6 e0 E i.toNat).ob.toNat
 let c:=b6 e0 E i.toNat
 let d:=a=true→(0:Int)≤c.ob∧c.ob < (↑M.length:Int)
 let e:=a=true→c.ob.toNat < M.length
 let f:=a=true→b.length=b.length
 let g:=(0:Int)
 (g≤i∧i < (↑E.length:Int))∧i.toNat < E.length∧(g≤k∧k < (↑E.length:Int))∧k.toNat < E.length∧d∧e∧f∧(a=true→(mkN (fun(i_1:Nat)=>b6 g b i_1) b.length).length≤(1099511627776:Nat))∧d∧e∧f∧(a=true→(mkN (fun(i_1:Nat)=>b6 g b i_1) b.length).length≤(1099511627776:Nat))∧(wrE c && wrE (b6 e0 E k.toNat) && c.ob ==(b6 e0 E k.toNat).ob && decide (y6 (mkN (fun(i_1:Nat)=>b6 g b i_1) b.length) i < y6 (mkN (fun(i_1:Nat)=>b6 g b i_1) b.length) k))=moG E R M i k):=by kernel_rfl
theorem v95 (E:List Ev) (R:List Int) (M:List (List Int)) (i k:Int) (h:pcM E R M i k):q95D E R M i k:=by
 rw[d8j]
 obtain⟨⟨hi,hk⟩,hM,hW⟩:=h
 have key:(wrE (b6 e0 E i.toNat) && wrE (b6 e0 E k.toNat) && (b6 e0 E i.toNat).ob == (b6 e0 E k.toNat).ob)=true→0≤(b6 e0 E i.toNat).ob∧(b6 e0 E i.toNat).ob < M.length:=fun hw=>hW i hi.1 hi.2 (by simp only[z0d] at hw; exact hw.1.1)
 have kl:(wrE (b6 e0 E i.toNat) && wrE (b6 e0 E k.toNat) && (b6 e0 E i.toNat).ob == (b6 e0 E k.toNat).ob)=true→(b6 [] M (b6 e0 E i.toNat).ob.toNat).length≤1099511627776:=fun hw=>hM _ (c8o (key hw).1 (key hw).2)
 have kn:=fun hw=>a0t (key hw)
 have hi2:=a0t hi
 have hk2:=a0t hk
 simp only[eq_self,true_and,and_true,z0n,imp_self,l9,m6,n5,g7,g8,PLoop.of,q6,AV.len,g9,z0s,i9,j4,j5,l5,l6,l7]
 exact⟨hi,hi2,hk,hk2,key,kn,kl,key,kn,kl,rfl⟩
theorem e07:p8 Tryz.prog 185:=⟨Tryz.f185,Tryz.func185,by kernel_rfl,by kernel_rfl⟩
def d51 (E:List Ev) (R:List Int) (M:List (List Int)) (i k:Int):Prop:=p7 (({ calls:=[kE1 86 rdE,kE1 84 wrE,c4w 95 pcM moG (nmG E R M)] }:Kit)).tab Tryz.f185 [grV E R M,.i .i64 i,.i .i64 k] (grM E R M) (l4 (.b (frG E R M i k)))
theorem d3n (E:List Ev) (R:List Int) (M:List (List Int)) (i k:Int):d51 E R M i k=(
 let a:=b6 e0 E k.toNat
 let b:=(0:Int)
 let c:=(↑E.length:Int)
 let d:=(-1:Int)
 (b≤i∧i < c)∧i.toNat < E.length∧(b≤k∧k < c)∧k.toNat < E.length∧((rdE (b6 e0 E i.toNat) && wrE a && (b6 e0 E i.toNat).ob ==a.ob && i !=k)=true→b≤i∧i < (↑R.length:Int))∧((rdE (b6 e0 E i.toNat) && wrE a && (b6 e0 E i.toNat).ob ==a.ob && i !=k)=true→i.toNat < R.length)∧((b6 b R i.toNat ==d)=false→(rdE (b6 e0 E i.toNat) && wrE a && (b6 e0 E i.toNat).ob ==a.ob && i !=k)=true→b≤i∧i < (↑R.length:Int))∧((b6 b R i.toNat ==d)=false→(rdE (b6 e0 E i.toNat) && wrE a && (b6 e0 E i.toNat).ob ==a.ob && i !=k)=true→i.toNat < R.length)∧((b6 b R i.toNat ==d)=false→(rdE (b6 e0 E i.toNat) && wrE a && (b6 e0 E i.toNat).ob ==a.ob && i !=k)=true→E.length=E.length)∧((b6 b R i.toNat ==d)=false→(rdE (b6 e0 E i.toNat) && wrE a && (b6 e0 E i.toNat).ob ==a.ob && i !=k)=true→R.length=R.length)∧((b6 b R i.toNat ==d)=false→(rdE (b6 e0 E i.toNat) && wrE a && (b6 e0 E i.toNat).ob ==a.ob && i !=k)=true→M.length=M.length)∧((b6 b R i.toNat ==d)=false→(rdE (b6 e0 E i.toNat) && wrE a && (b6 e0 E i.toNat).ob ==a.ob && i !=k)=true→nE E)∧((b6 b R i.toNat ==d)=false→(rdE (b6 e0 E i.toNat) && wrE a && (b6 e0 E i.toNat).ob ==a.ob && i !=k)=true→nI R)∧((b6 b R i.toNat ==d)=false→(rdE (b6 e0 E i.toNat) && wrE a && (b6 e0 E i.toNat).ob ==a.ob && i !=k)=true→nR M)∧((b6 b R i.toNat ==d)=false→(rdE (b6 e0 E i.toNat) && wrE a && (b6 e0 E i.toNat).ob ==a.ob && i !=k)=true→((b≤b6 b R i.toNat∧b6 b R i.toNat < c)∧b≤k∧k < c)∧(∀(r:List Int),List.Mem r M→r.length≤(1099511627776:Nat))∧∀(i:Int),b≤i→i < c→wrE (evA E i)=true→b≤(evA E
 i).ob∧(evA E i).ob < (↑M.length:Int))∧(rdE (b6 e0 E i.toNat) && wrE a && (b6 e0 E i.toNat).ob ==a.ob && i !=k && (b6 b R i.toNat ==d || moG E R M (b6 b R i.toNat) k))=frG E R M i k):=by kernel_rfl
theorem v185 (E:List Ev) (R:List Int) (M:List (List Int)) (i k:Int) (h:pcF E R M i k):d51 E R M i k:=by
 rw[d3n]
 obtain⟨⟨hi,hk⟩,hM,hR,hF⟩:=h
 have hi2:=a0t hi
 have hk2:=a0t hk
 have hiR:0≤i∧i < R.length:=by omega
 have hiR2:=a0t hiR
 simp only[eq_self,true_and,and_true,z0n,imp_self,l9,m6,n5,g7,g8,PLoop.of,q6,AV.len,g9,z0s,i9,j4,j5,l5,l6,l7]
 refine⟨hi,hi2,hk,hk2,fun _=>hiR,fun _=>hiR2,fun _ _=>hiR,fun _ _=>hiR2,fun h1 h2=>⟨⟨?_,hk⟩,hM.1,hM.2⟩,rfl⟩
 simp only[z0d] at h2
 rcases hF i hi.1 hi.2 h2.1.1.1 with h3 | h3
 ·simp only[inA] at h3; rw[h3] at h1; simp at h1
 ·exact h3
theorem n184 (nm:List (Option AV)):CallOk Tryz.prog [] 184 (o5 EL none nm [PG,.lf .i,.lf .i] (b4x pcE poG)):=x4 Tryz.func184 e06 fun av pre rv h=>by
 unfold b4x at h; split at h <;> cases h
 exact⟨⟨rfl,fun t a e=>by cases e <;> exact z0h _ _⟩,fun hp=>⟨_,v184 _ _ _ _ _ (hp _ (.head _)),rfl,t9,u4⟩⟩
theorem n94 (nm:List (Option AV)):CallOk Tryz.prog [] 94 (o5 EL none nm [PG,.lf .i,.lf .i] (b4x pcE syG)):=x4 Tryz.func94 fo94 fun av pre rv h=>by
 unfold b4x at h; split at h <;> cases h
 exact⟨⟨rfl,fun t a e=>by cases e <;> exact z0h _ _⟩,fun hp=>⟨_,v94 _ _ _ _ _ (hp _ (.head _)),rfl,(m9 (n139 _) (m9 (n140 _) t9)),u4⟩⟩
theorem n95 (nm:List (Option AV)):CallOk Tryz.prog [] 95 (o5 EL none nm [PG,.lf .i,.lf .i] (b4x pcM moG)):=x4 Tryz.func95 fo95 fun av pre rv h=>by
 unfold b4x at h; split at h <;> cases h
 exact⟨⟨rfl,fun t a e=>by cases e <;> exact z0h _ _⟩,fun hp=>⟨_,v95 _ _ _ _ _ (hp _ (.head _)),rfl,(m9 (n84 _) (m9 (n66 _) t9)),u4⟩⟩
theorem n185 (nm:List (Option AV)):CallOk Tryz.prog [] 185 (o5 EL none nm [PG,.lf .i,.lf .i] (b4x pcF frG)):=x4 Tryz.func185 e07 fun av pre rv h=>by
 unfold b4x at h; split at h <;> cases h
 exact⟨⟨rfl,fun t a e=>by cases e <;> exact z0h _ _⟩,fun hp=>⟨_,v185 _ _ _ _ _ (hp _ (.head _)),rfl,(m9 (n86 _) (m9 (n84 _) (m9 (n95 _) t9))),u4⟩⟩
def a5n (E:List Ev) (R:List Int) (i:Int):Nat→Int→Bool
 | 0,_=>false
 | f + 1,x=>bif decide (x < 0) then false else bif x == i then true else bif (evA E x).k == 5 then a5n E R i f (inA R x) else false
def swG:GF:=fun E R _ i k=>wrE (evA E i) && (evA E i).od == 2 && rdE (evA E k) && (evA E k).od == 2 && a5n E R i (E.length + 1) (inA R k)
def atF (R:List Int) (x:Int):Nat→Int
 | 0=>x
 | s + 1=>inA R (atF R x s)
def b31 (E:List Ev) (R:List Int):Prop:=R.length=E.length∧∀ j:Int,0≤j→j < E.length→inA R j < E.length
def pcS:GP:=fun E R _ i k=>b0s E i k∧b31 E R∧L40 E.length
def d10 (E:List Ev) (R:List Int) (i k:Int) (t x:Nat):LAnn where
 X:=Nat
 inv:=fun s=>s≤E.length + 1∧a5n E R i (E.length + 1) (inA R k)=a5n E R i (E.length + 1 - s) (atF R (inA R k) s)∧atF R (inA R k) s < E.length
 slots:=fun s=>[(t,.i .i64 (s:Int)),(x,.i .i64 (atF R (inA R k) s))]
 mem:=fun _=>[]
 mu:=fun s=>E.length + 1 - s
 kill:=[]
def a1n (E:List Ev) (R:List Int) (i:Int):Bool:=
 bif !rdE (evA E i) then inA R i == -2 else bif decide (inA R i < 0) || decide (inA R i ≥ E.length) then inA R i == -1 else inA R i != i && wrE (evA E (inA R i)) && (evA E (inA R i)).ob == (evA E i).ob
def d6n:SpG:=fun
 | [.ag [.es E,.is R,.rs M],.lf (.i i)]=>some ([(0≤i∧i < E.length)∧R.length=E.length],.rv (.pl (.b (a1n E R i))))
 | _=>none
def kSrc (nm:List (Option AV)):Nat × (List MBlk→List SV→Option AR):=(83,o5 EL none nm [PG,.lf .i] d6n)
def a4l (c:Int):GF:=fun E R M i k=>bif c == 112 then poG E R M i k else bif c == 114 then rfG E R M i k else bif c == 109 then moG E R M i k else bif c == 102 then frG E R M i k else bif c == 115 then syG E R M i k else swG E R M i k
def GOk (E:List Ev) (R:List Int) (M:List (List Int)):Prop:=c14 E M∧b31 E R∧L40 E.length∧∀ j:Int,0≤j→j < E.length→rdE (evA E j)=true→inA R j = -1∨(0≤inA R j∧inA R j < E.length)
def pcG:GP:=fun E R M i k=>b0s E i k∧GOk E R M
def d61:SpG:=fun
 | [.ag [.es E,.is R,.rs M],.c c,.lf (.i i),.lf (.i k)]=>some ([pcG E R M i k],.rv (.pl (.b (a4l c E R M i k))))
 | _=>none
def kBel (nm:List (Option AV)):Nat × (List MBlk→List SV→Option AR):=(145,o5 EL none nm [PG,.c,.lf .i,.lf .i] d61)
def a4t (s:ByteArray) (f:Int→Bool):Nat→Bool
 | 0=>false
 | c + 1=>a4t s f c || f (c0o s c)
def j8 (s:ByteArray):GF:=fun E R M i k=>a4t s (fun c=>a4l c E R M i k) s.size
theorem e08:p8 Tryz.prog 186:=⟨Tryz.f186,Tryz.func186,by kernel_rfl,by kernel_rfl⟩
def d52 (E:List Ev) (R:List Int) (M:List (List Int)) (i k:Int):Prop:=p7 (({ calls:=[kE1 84 wrE,kE1 86 rdE],loops:=[(0,.of (d10 E R i k 10 9))] }:Kit)).tab Tryz.f186 [grV E R M,.i .i64 i,.i .i64 k] (grM E R M) (l4 (.b (swG E R M i k)))
theorem d3o (E:List Ev) (R:List Int) (M:List (List Int)) (i k:Int):d52 E R M i k=(
 let a:=b6 e0 E i.toNat
 let b:=b6 e0 E k.toNat
 let c:=a.ag=a.ag∧a.ix=a.ix∧a.k=a.k∧a.ob=a.ob∧a.mu=a.mu∧a.en=a.en∧a.od=a.od∧a.rd=a.rd∧a.wr=a.wr
 let d:=inA R k
 let e:=(↑E.length:Int)
 let f:=b.ag=b.ag∧b.ix=b.ix∧b.k=b.k∧b.ob=b.ob∧b.mu=b.mu∧b.en=b.en∧b.od=b.od∧b.rd=b.rd∧b.wr=b.wr
 let g:=!wrE a || a.od !=(2:Int) || !rdE b
 let h:=!wrE a || a.od !=(2:Int)
 let j:=E.length=E.length∧R.length=R.length∧M.length=M.length
 let l:=(0:Int)
 let m:=!wrE a || a.od !=(2:Int) || !rdE b || b.od !=(2:Int)
 let n:=(1:Nat)
 let o:=PLoop.of (d10 E R i k (10:Nat) (9:Nat))
 let p:=E.length + n
 (l≤i∧i < e)∧i.toNat < E.length∧(l≤k∧k < e)∧k.toNat < E.length∧(m=true→false=swG E R M i k)∧(m=false→(l≤k∧k < (↑R.length:Int))∧k.toNat < R.length∧∃(x:PUnit),(∃(x:Nat),(x≤E.length + n∧a5n E R i p d=a5n E R i (E.length + n - x) (atF R d x)∧atF R d x < e)∧(l=(↑x:Int)∧b6 l R k.toNat=atF R d x∧True)∧True)∧∀(x_1:Nat),x_1≤E.length + n∧a5n E R i p d=a5n E R i (E.length + n - x_1) (atF R d x_1)∧atF R d x_1 < e→((decide ((↑x_1:Int)≤e) && decide (atF R d x_1 ≥ l))=true→((atF R d x_1 ==i)=true→true=swG E R M i k)∧((atF R d x_1 ==i)=false→(l≤atF R d x_1∧atF R d x_1 < e)∧(atF R d x_1).toNat < E.length∧(((b6 e0 E (atF R d x_1).toNat).k !=(5:Int))=true→false=swG E R M i k)∧(((b6 e0 E (atF R d x_1).toNat).k !=(5:Int))=false→(l≤atF R d x_1∧atF R d x_1 < (↑R.length:Int))∧(atF R d x_1).toNat < R.length∧∃(x_2:Nat),(x_2≤E.length + n∧a5n E R i p d=a5n E R i (E.length + n - x_2) (atF R d x_2)∧atF R d x_2 < e)∧(o.ann x).mu x_2 < (o.ann x).mu x_1∧(j∧i=i∧k=k∧True∧True∧True∧b6 l R (atF R d x_1).toNat=atF R d x_2∧IntKind.i64.wrap ((↑x_1:Int) + (1:Int))=(↑x_2:Int)∧True∧E.length=E.length∧i=i∧i.toNat=i.toNat∧c∧True∧E.length=E.length∧k=k∧k.toNat=k.toNat∧f∧c∧wrE a=wrE a∧(!wrE a) =!wrE a∧(!wrE a) =!wrE a∧h=h∧h=h∧g=g∧g=g∧false=false∧True∧R.length=R.length∧k=k∧k.toNat=k.toNat∧b6 l R k.toNat=b6 l R k.toNat∧True)∧eqA E.length (i6 E)∧eqA R.length (f7 R)∧eqA M.length (i4 M)∧j∧c∧f∧True)))∧((decide ((↑x_1:Int)≤e) && decide (atF R d x_1 ≥ l))=false→false=swG E R M i k))):=by kernel_rfl
theorem v186 (E:List Ev) (R:List Int) (M:List (List Int)) (i k:Int) (h:pcS E R M i k):d52 E R M i k:=by
 rw[d3o]
 obtain⟨⟨hi,hk⟩,⟨hR,hX⟩,hL⟩:=h
 have hL':E.length≤1099511627776:=hL
 have hkR:0≤k∧k < R.length:=by omega
 have n1:=a0t hi
 have n2:=a0t hk
 have n3:=a0t hkR
 simp only[eq_self,true_and,and_true,z0n,imp_self,l9,m6,n5,g7,g8,PLoop.of,q6,AV.len,g9,z0s,i9,j4,j5,l5,l6,l7,d10]
 refine⟨hi,n1,hk,n2,fun hc=>?_,fun hc=>?_⟩
 ·simp only[swG,evA]
  revert hc
  generalize wrE (b6 e0 E i.toNat)=p
  generalize rdE (b6 e0 E k.toNat)=q
  cases p <;> cases q <;> simp <;> grind
 have hsw:swG E R M i k=a5n E R i (E.length + 1) (inA R k):=by
  simp only[z1k,z2w,bne_eq_false_iff_eq] at hc
  obtain⟨⟨⟨h1,h2⟩,h3⟩,h4⟩:=hc
  simp[swG,evA,h1,h2,h3,h4]
 refine⟨hkR,n3,(),⟨0,⟨by omega,rfl,hX k hk.1 hk.2⟩,rfl,rfl⟩,fun s hs=>?_⟩
 obtain⟨hs1,hs2,hs3⟩:=hs
 rw[hsw]
 generalize a5n E R i (E.length + 1) (inA R k)=res at *
 refine⟨fun hcd=>?_,fun hcd=>?_⟩
 ·simp only[z0d,z1i] at hcd
  obtain⟨hc1,hc2⟩:=hcd
  have hf:E.length + 1 - s=(E.length - s) + 1:=by omega
  have hneg:decide (atF R (inA R k) s < 0)=false:=by simp; omega
  rw[hf,a5n,hneg,z0l] at hs2
  have b1:0≤atF R (inA R k) s∧atF R (inA R k) s < E.length:=⟨hc2,hs3⟩
  have b2:0≤atF R (inA R k) s∧atF R (inA R k) s < R.length:=by omega
  refine⟨fun he=>?_,fun he=>⟨b1,a0t b1,fun h5=>?_,fun h5=>⟨b2,a0t b2,s + 1,⟨by omega,?_,hX _ b1.1 b1.2⟩,by omega,rfl,?_⟩⟩⟩
  ·rw[hs2,he]; rfl
  ·rw[hs2,he,z0l]
   have:((evA E (atF R (inA R k) s)).k == 5)=false:=by simpa [evA] using h5
   rw[this]; rfl
  ·rw[hs2,he,z0l]
   have:((evA E (atF R (inA R k) s)).k == 5)=true:=by simpa [evA] using h5
   rw[this,z0f,show E.length + 1 - (s + 1)=E.length - s by omega]
   rfl
  ·rw[a46 (by omega) (by omega)]; push_cast; rfl
 ·rw[hs2]
  by_cases hf:s=E.length + 1
  ·rw[hf,Nat.sub_self]; rfl
  ·rw[show E.length + 1 - s=(E.length - s) + 1 by omega,a5n]
   have hneg:decide (atF R (inA R k) s < 0)=true:=by
    simp only[Bool.and_eq_false_iff,z1g] at hcd
    rcases hcd with h | h
    ·omega
    ·simp; omega
   rw[hneg]; rfl
theorem d9w:p8 Tryz.prog 145:=⟨Tryz.f145,Tryz.func145,by kernel_rfl,by kernel_rfl⟩
def d4u (E:List Ev) (R:List Int) (M:List (List Int)) (c i k:Int):Prop:=p7 (({ calls:=[c4w 184 pcE poG (nmG E R M),c4w 95 pcM moG (nmG E R M),c4w 185 pcF frG (nmG E R M),c4w 94 pcE syG (nmG E R M),c4w 186 pcS swG (nmG E R M)] }:Kit)).tab Tryz.f145 [grV E R M,.i .u8 c,.i .i64 i,.i .i64 k] (grM E R M) (l4 (.b (a4l c E R M i k)))
theorem d3c (E:List Ev) (R:List Int) (M:List (List Int)) (c i k:Int):d4u E R M c i k=(
 let a:=(↑E.length:Int)
 let b:=(0:Int)
 let d:=(1099511627776:Nat)
 ((c ==(112:Int))=true→E.length=E.length∧R.length=R.length∧M.length=M.length∧nE E∧nI R∧nR M∧((b≤i∧i < a)∧b≤k∧k < a)∧poG E R M i k=a4l c E R M i k)∧((c ==(112:Int))=false→((c ==(114:Int))=true→(b≤k∧k < (↑R.length:Int))∧k.toNat < R.length∧(b6 b R k.toNat ==i)=a4l c E R M i k)∧((c ==(114:Int))=false→((c ==(109:Int))=true→E.length=E.length∧R.length=R.length∧M.length=M.length∧nE E∧nI R∧nR M∧(((b≤i∧i < a)∧b≤k∧k < a)∧(∀(r:List Int),List.Mem r M→r.length≤d)∧∀(i:Int),b≤i→i < a→wrE (evA E i)=true→b≤(evA E i).ob∧(evA E i).ob < (↑M.length:Int))∧moG E R M i k=a4l c E R M i k)∧((c ==(109:Int))=false→((c ==(102:Int))=true→E.length=E.length∧R.length=R.length∧M.length=M.length∧nE E∧nI R∧nR M∧(((b≤i∧i < a)∧b≤k∧k < a)∧((∀(r:List Int),List.Mem r M→r.length≤d)∧∀(i:Int),b≤i→i < a→wrE (evA E i)=true→b≤(evA E i).ob∧(evA E i).ob < (↑M.length:Int))∧R.length=E.length∧∀(j:Int),b≤j→j < a→rdE (evA E j)=true→inA R j=(-1:Int)∨b≤inA R j∧inA R j < a)∧frG E R M i k=a4l c E R M i k)∧((c ==(102:Int))=false→((c ==(115:Int))=true→E.length=E.length∧R.length=R.length∧M.length=M.length∧nE E∧nI R∧nR M∧((b≤i∧i < a)∧b≤k∧k < a)∧syG E R M i k=a4l c E R M i k)∧((c ==(115:Int))=false→E.length=E.length∧R.length=R.length∧M.length=M.length∧nE E∧nI R∧nR M∧(((b≤i∧i < a)∧b≤k∧k < a)∧(R.length=E.length∧∀(j:Int),b≤j→j < a→inA R j < a)∧E.length≤d)∧swG E R M i k=a4l c E R M i k)))))):=by kernel_rfl
theorem v145 (E:List Ev) (R:List Int) (M:List (List Int)) (c i k:Int) (h:pcG E R M i k):d4u E R M c i k:=by
 rw[d3c]
 obtain⟨hik,hM,hR,hL,hF⟩:=h
 have hkR:0≤k∧k < R.length:=by have:=hik.2; have:=hR.1; omega
 have n3:=a0t hkR
 simp only[eq_self,true_and,and_true,z0n,imp_self,l9,m6,n5,g7,g8,PLoop.of,q6,AV.len,g9,z0s,i9,j4,j5,l5,l6,l7]
 refine⟨fun h1=>⟨hik,?_⟩,fun h1=>⟨fun h2=>⟨hkR,n3,?_⟩,fun h2=>⟨fun h3=>⟨⟨hik,hM.1,hM.2⟩,?_⟩,fun h3=>⟨fun h4=>⟨⟨hik,⟨hM.1,hM.2⟩,hR.1,hF⟩,?_⟩,fun h4=>⟨fun h5=>⟨hik,?_⟩,fun h5=>⟨⟨hik,⟨hR.1,hR.2⟩,hL⟩,?_⟩⟩⟩⟩⟩⟩
 all_goals (simp only[a4l, *,z0f,z0l]; try rfl)
theorem fo83:p8 Tryz.prog 83:=⟨Tryz.f83,Tryz.func83,by kernel_rfl,by kernel_rfl⟩
def q83D (E:List Ev) (R:List Int) (M:List (List Int)) (i:Int):Prop:=p7 (({ calls:=[kE1 84 wrE,kE1 86 rdE] }:Kit)).tab Tryz.f83 [grV E R M,.i .i64 i] (grM E R M) (l4 (.b (a1n E R i)))
theorem d8d (E:List Ev) (R:List Int) (M:List (List Int)) (i:Int):q83D E R M i=(
 let a:=(0:Int)
 let b:=b6 e0 E (b6 a R i.toNat).toNat
 let c:=decide (b6 a R i.toNat < a) || decide (b6 a R i.toNat ≥ (↑E.length:Int))
 let d:=(↑E.length:Int)
 let e:=b6 e0 E i.toNat
 let f:=b6 a R i.toNat !=i && wrE b
 (a≤i∧i < d)∧i.toNat < E.length∧(a≤i∧i < (↑R.length:Int))∧i.toNat < R.length∧((!rdE e)=true→(b6 a R i.toNat ==(-2:Int))=a1n E R i)∧((!rdE e)=false→(c=true→(b6 a R i.toNat ==(-1:Int))=a1n E R i)∧(c=false→((b6 a R i.toNat !=i)=true→a≤b6 a R i.toNat∧b6 a R i.toNat < d)∧((b6 a R i.toNat !=i)=true→(b6 a R i.toNat).toNat < E.length)∧(f=true→a≤b6 a R i.toNat∧b6 a R i.toNat < d)∧(f=true→(b6 a R i.toNat).toNat < E.length)∧(b6 a R i.toNat !=i && wrE b && b.ob ==e.ob)=a1n E R i))):=by kernel_rfl
theorem v83 (E:List Ev) (R:List Int) (M:List (List Int)) (i:Int) (h:(0≤i∧i < E.length)∧R.length=E.length):q83D E R M i:=by
 rw[d8d]
 obtain⟨hi,hR⟩:=h
 have hiR:0≤i∧i < R.length:=by omega
 have n1:=a0t hi
 have n2:=a0t hiR
 have hb:((decide (b6 0 R i.toNat < 0) || decide (b6 0 R i.toNat ≥ E.length))=false)→0≤b6 0 R i.toNat∧b6 0 R i.toNat < E.length:=fun h=>by
  simp only[z1k,z1g] at h; omega
 refine⟨hi,n1,hiR,n2,fun h1=>?_,fun h1=>⟨fun h2=>?_,fun h2=>⟨fun _=>hb h2,fun _=>a0t (hb h2),fun _=>hb h2,fun _=>a0t (hb h2),?_⟩⟩⟩
 ·simp only[a1n,evA,h1,z0f]; rfl
 ·simp only[a1n,evA,inA,h1,z0l]
  erw [h2]
  rfl
 ·simp only[a1n,evA,inA,h1,z0l]
  erw [h2]
  rfl
theorem n186 (nm:List (Option AV)):CallOk Tryz.prog [] 186 (o5 EL none nm [PG,.lf .i,.lf .i] (b4x pcS swG)):=x4 Tryz.func186 e08 fun av pre rv h=>by
 unfold b4x at h; split at h <;> cases h
 exact⟨⟨rfl,fun t a e=>by cases e <;> exact z0h _ _⟩,fun hp=>⟨_,v186 _ _ _ _ _ (hp _ (.head _)),rfl,(m9 (n84 _) (m9 (n86 _) t9)),u4⟩⟩
theorem n83 (nm:List (Option AV)):CallOk Tryz.prog [] 83 (o5 EL none nm [PG,.lf .i] d6n):=x4 Tryz.func83 fo83 fun av pre rv h=>by
 unfold d6n at h; split at h <;> cases h
 exact⟨⟨rfl,fun t a e=>by cases e <;> exact z0h _ _⟩,fun hp=>⟨_,v83 _ _ _ _ (hp _ (.head _)),rfl,(m9 (n84 _) (m9 (n86 _) t9)),u4⟩⟩
theorem n145 (nm:List (Option AV)):CallOk Tryz.prog [] 145 (o5 EL none nm [PG,.c,.lf .i,.lf .i] d61):=x4 Tryz.func145 d9w fun av pre rv h=>by
 unfold d61 at h; split at h <;> cases h
 exact⟨⟨rfl,fun t a e=>by cases e <;> exact z0h _ _⟩,fun hp=>⟨_,v145 _ _ _ _ _ _ (hp _ (.head _)),rfl,(m9 (n184 _) (m9 (n95 _) (m9 (n185 _) (m9 (n94 _) (m9 (n186 _) t9))))),u4⟩⟩
def d11 (s:ByteArray) (E:List Ev) (R:List Int) (M:List (List Int)) (t b:Nat):PLoop:=⟨Nat × Nat,fun p=>{ X:=Nat,inv:=fun c=>c≤s.size∧p.1 < E.length∧p.2 < E.length,slots:=fun c=>[(t,.i .i64 (c:Int)),(b,.b (a4t s (fun q=>a4l q E R M p.1 p.2) c))],mem:=fun _=>[],mu:=fun c=>s.size - c,kill:=[] }⟩
def d6o:SpG:=fun
 | [.ag [.es E,.is R,.rs M],.st s]=>some ([GOk E R M∧E.length≤64∧L40 s.size],b09 E.length (b7 E.length (j8 s E R M)))
 | _=>none
def kUni (nm:List (Option AV)):Nat × (List MBlk→List SV→Option AR):=(107,o5 EL none nm [PG,.st] d6o)
theorem d92:p8 Tryz.prog 107:=⟨Tryz.f107,Tryz.func107,by kernel_rfl,by kernel_rfl⟩
def d48 (E:List Ev) (R:List Int) (M:List (List Int)) (s:ByteArray):Prop:=p7 (({ calls:=[kBel (nmG E R M)],loops:=[(0,.of (a5t E.length (j8 s E R M) 6 5 6)),(2,a3x E.length (j8 s E R M) 7 5 6),(4,d11 s E R M 9 8)],takes:=[(2,fun _ _=>[.fresh 5 1 67 2])] }:Kit)).tab Tryz.f107 [grV E R M,.v (.string s)] (grM E R M) ((b09 E.length (b7 E.length (j8 s E R M))).post EL)
theorem d2l (E:List Ev) (R:List Int) (M:List (List Int)) (s:ByteArray):d48 E R M s=(
 let a:=j8 s E R M
 let b:=(↑E.length:Int)
 let c:=E.length=E.length∧R.length=R.length∧M.length=M.length
 let d:=((0:Int),(0:Int))
 let e:=a3x E.length a (7:Nat) (5:Nat) (6:Nat)
 let f:=(0:Int)
 let g:=PLoop.of (a5t E.length a (6:Nat) (5:Nat) (6:Nat))
 let h:=AV.ps (b7 b a)
 let k:=b=b∧True
 let l:=f=f∧True
 let m:=d11 s E R M (9:Nat) (8:Nat)
 let n:=(↑s.size:Int)
 let o:=(1:Nat)
 ∃(x:PUnit),(∃(x:Nat),(x≤E.length∧True)∧(f=(↑x:Int)∧True)∧(b=b∧(0:Nat)=(b9 a E.length x).length)∧((0:Nat)=(b9 a E.length x).length∧(b9 a E.length x).length=(0:Nat)∧(b9 a E.length x).length=(0:Nat)∧True)∧True)∧∀(x_1:Nat),x_1≤E.length∧True→(decide ((↑x_1:Int) < b)=true→∃(x_2:Nat),(∃(x:Nat),(x≤E.length∧x_2 < E.length)∧(f=(↑x:Int)∧True)∧(b=b∧(b9 a E.length x_1).length=(b9 a E.length x_2 ++ d6 a x_2 x).length)∧((b9 a E.length x_1).length=(b9 a E.length x_2 ++ d6 a x_2 x).length∧(∀(j:Nat),j < (b9 a E.length x_2 ++ d6 a x_2 x).length→(b6 d (b9 a E.length x_1) j).fst=(b6 d (b9 a E.length x_2 ++ d6 a x_2 x) j).fst)∧(∀(j:Nat),j < (b9 a E.length x_2 ++ d6 a x_2 x).length→(b6 d (b9 a E.length x_1) j).snd=(b6 d (b9 a E.length x_2 ++ d6 a x_2 x) j).snd)∧True)∧True)∧∀(x_3:Nat),x_3≤E.length∧x_2 < E.length→(decide ((↑x_3:Int) < b)=true→∃(x:Nat × Nat),(∃(x_4:Nat),(x_4≤s.size∧x.fst < E.length∧x.snd < E.length)∧(f=(↑x_4:Int)∧false=a4t s (fun(q:Int)=>a4l q E R M (↑x.fst:Int) (↑x.snd:Int)) x_4∧True)∧True)∧∀(x_4:Nat),x_4≤s.size∧x.fst < E.length∧x.snd < E.length→(decide ((↑x_4:Int) < n)=true→(a4t s (fun(q:Int)=>a4l q E R M (↑x.fst:Int) (↑x.snd:Int)) x_4=false→f≤(↑x_4:Int)∧(↑x_4:Int) < n)∧(a4t s (fun(q:Int)=>a4l q E R M (↑x.fst:Int) (↑x.snd:Int)) x_4=false→E.length=E.length)∧(a4t s (fun(q:Int)=>a4l q E R M (↑x.fst:Int) (↑x.snd:Int)) x_4=false→R.length=R.length)∧(a4t s (fun(q:Int)=>a4l q E R M (↑x.fst:Int) (↑x.snd:Int)) x_4=false→M.length=M.length)∧(a4t s (fun(q:Int)=>a4l q E R M (↑x.fst:Int)
 (↑x.snd:Int)) x_4=false→nE E)∧(a4t s (fun(q:Int)=>a4l q E R M (↑x.fst:Int) (↑x.snd:Int)) x_4=false→nI R)∧(a4t s (fun(q:Int)=>a4l q E R M (↑x.fst:Int) (↑x.snd:Int)) x_4=false→nR M)∧(a4t s (fun(q:Int)=>a4l q E R M (↑x.fst:Int) (↑x.snd:Int)) x_4=false→((f≤(↑x_1:Int)∧(↑x_1:Int) < b)∧f≤(↑x_3:Int)∧(↑x_3:Int) < b)∧((∀(r:List Int),List.Mem r M→r.length≤(1099511627776:Nat))∧∀(i:Int),f≤i→i < b→wrE (evA E i)=true→f≤(evA E i).ob∧(evA E i).ob < (↑M.length:Int))∧(R.length=E.length∧∀(j:Int),f≤j→j < b→inA R j < b)∧E.length≤(1099511627776:Nat)∧∀(j:Int),f≤j→j < b→rdE (evA E j)=true→inA R j=(-1:Int)∨f≤inA R j∧inA R j < b)∧∃(x_5:Nat),(x_5≤s.size∧x.fst < E.length∧x.snd < E.length)∧(m.ann x).mu x_5 < (m.ann x).mu x_4∧(c∧Value.string s=Value.string s∧True∧True∧True∧(↑x_1:Int)=(↑x_1:Int)∧(↑x_3:Int)=(↑x_3:Int)∧(a4t s (fun(q:Int)=>a4l q E R M (↑x.fst:Int) (↑x.snd:Int)) x_4 || a4l (c0o s (↑x_4:Int)) E R M (↑x_1:Int) (↑x_3:Int))=a4t s (fun(q:Int)=>a4l q E R M (↑x.fst:Int) (↑x.snd:Int)) x_5∧IntKind.i64.wrap ((↑x_4:Int) + (1:Int))=(↑x_5:Int)∧True∧E.length=E.length∧b=b∧k∧(↑x_1:Int)=(↑x_1:Int)∧True∧E.length=E.length∧b=b∧true=true∧(↑x_3:Int)=(↑x_3:Int)∧True∧E.length=E.length∧b=b∧true=true∧True)∧eqA E.length (i6 E)∧eqA R.length (f7 R)∧eqA M.length (i4 M)∧c∧l∧(b=b∧(b9 a E.length x_2 ++ d6 a x_2 x_3).length=(b9 a E.length x_2 ++ d6 a x_2 x_3).length)∧eqA (b9 a E.length x_2 ++ d6 a x_2 x_3).length [Col.int IntKind.i64 fun(j:Nat)=>(b6 d (b9 a E.length x_2 ++ d6 a x_2 x_3) j).fst,Col.int IntKind.i64
 fun(j:Nat)=>(b6 d (b9 a E.length x_2 ++ d6 a x_2 x_3) j).snd]∧True)∧(decide ((↑x_4:Int) < n)=false→(a4t s (fun(q:Int)=>a4l q E R M (↑x.fst:Int) (↑x.snd:Int)) x_4=true→(b9 a E.length x_2 ++ d6 a x_2 x_3).length=(b9 a E.length x_2 ++ d6 a x_2 x_3).length∧o=o∧((b9 a E.length x_2 ++ d6 a x_2 x_3).length + o) * (16:Nat)≤(140737488355328:Nat)∧(b9 a E.length x_2 ++ d6 a x_2 x_3).length + o≤(9223372036854775807:Nat)∧∃(x:Nat),(x≤E.length∧x_2 < E.length)∧(e.ann x_2).mu x < (e.ann x_2).mu x_3∧(c∧Value.string s=Value.string s∧True∧True∧True∧(↑x_1:Int)=(↑x_1:Int)∧IntKind.i64.wrap ((↑x_3:Int) + (1:Int))=(↑x:Int)∧True∧E.length=E.length∧b=b∧k∧(↑x_1:Int)=(↑x_1:Int)∧True∧E.length=E.length∧b=b∧true=true∧True)∧eqA E.length (i6 E)∧eqA R.length (f7 R)∧eqA M.length (i4 M)∧c∧l∧(b=b∧(b9 a E.length x_2 ++ d6 a x_2 x_3).length + o=(b9 a E.length x_2 ++ d6 a x_2 x).length)∧((b9 a E.length x_2 ++ d6 a x_2 x_3).length + o=(b9 a E.length x_2 ++ d6 a x_2 x).length∧(∀(j:Nat),j < (b9 a E.length x_2 ++ d6 a x_2 x).length→(bif j.blt (b9 a E.length x_2 ++ d6 a x_2 x_3).length then(b6 d (b9 a E.length x_2 ++ d6 a x_2 x_3) j).fst else d9 [(↑x_1:Int)] (j - (b9 a E.length x_2 ++ d6 a x_2 x_3).length))=(b6 d (b9 a E.length x_2 ++ d6 a x_2 x) j).fst)∧(∀(j:Nat),j < (b9 a E.length x_2 ++ d6 a x_2 x).length→(bif j.blt (b9 a E.length x_2 ++ d6 a x_2 x_3).length then(b6 d (b9 a E.length x_2 ++ d6 a x_2 x_3) j).snd else d9 [(↑x_3:Int)] (j - (b9 a E.length x_2 ++ d6 a x_2 x_3).length))=(b6 d (b9 a E.length x_2 ++ d6 a x_2
 x) j).snd)∧True)∧True)∧(a4t s (fun(q:Int)=>a4l q E R M (↑x.fst:Int) (↑x.snd:Int)) x_4=false→∃(x:Nat),(x≤E.length∧x_2 < E.length)∧(e.ann x_2).mu x < (e.ann x_2).mu x_3∧(c∧Value.string s=Value.string s∧True∧True∧True∧(↑x_1:Int)=(↑x_1:Int)∧IntKind.i64.wrap ((↑x_3:Int) + (1:Int))=(↑x:Int)∧True∧E.length=E.length∧b=b∧k∧(↑x_1:Int)=(↑x_1:Int)∧True∧E.length=E.length∧b=b∧true=true∧True)∧eqA E.length (i6 E)∧eqA R.length (f7 R)∧eqA M.length (i4 M)∧c∧l∧(b=b∧(b9 a E.length x_2 ++ d6 a x_2 x_3).length=(b9 a E.length x_2 ++ d6 a x_2 x).length)∧((b9 a E.length x_2 ++ d6 a x_2 x_3).length=(b9 a E.length x_2 ++ d6 a x_2 x).length∧(∀(j:Nat),j < (b9 a E.length x_2 ++ d6 a x_2 x).length→(b6 d (b9 a E.length x_2 ++ d6 a x_2 x_3) j).fst=(b6 d (b9 a E.length x_2 ++ d6 a x_2 x) j).fst)∧(∀(j:Nat),j < (b9 a E.length x_2 ++ d6 a x_2 x).length→(b6 d (b9 a E.length x_2 ++ d6 a x_2 x_3) j).snd=(b6 d (b9 a E.length x_2 ++ d6 a x_2 x) j).snd)∧True)∧True)))∧(decide ((↑x_3:Int) < b)=false→∃(x_4:Nat),(x_4≤E.length∧True)∧(g.ann x).mu x_4 < (g.ann x).mu x_1∧(c∧Value.string s=Value.string s∧True∧True∧True∧IntKind.i64.wrap ((↑x_1:Int) + (1:Int))=(↑x_4:Int)∧True∧E.length=E.length∧b=b∧k∧True)∧eqA E.length (i6 E)∧eqA R.length (f7 R)∧eqA M.length (i4 M)∧c∧l∧(b=b∧(b9 a E.length x_2 ++ d6 a x_2 x_3).length=(b9 a E.length x_4).length)∧((b9 a E.length x_2 ++ d6 a x_2 x_3).length=(b9 a E.length x_4).length∧(∀(j:Nat),j < (b9 a E.length x_4).length→(b6 d (b9 a E.length x_2 ++ d6 a x_2 x_3) j).fst=(b6 d (b9 a E.length x_4)
 j).fst)∧(∀(j:Nat),j < (b9 a E.length x_4).length→(b6 d (b9 a E.length x_2 ++ d6 a x_2 x_3) j).snd=(b6 d (b9 a E.length x_4) j).snd)∧True)∧True))∧(decide ((↑x_1:Int) < b)=false→(b9 a E.length x_1).length=h.len∧((∀(j:Nat),j < h.len→(b6 d (b9 a E.length x_1) j).fst=(b6 d (b7 b a) j).fst)∧(∀(j:Nat),j < h.len→(b6 d (b9 a E.length x_1) j).snd=(b6 d (b7 b a) j).snd)∧True)∧b=b∧(b9 a E.length x_1).length=h.len∧True)):=by kernel_rfl
theorem v107 (E:List Ev) (R:List Int) (M:List (List Int)) (s:ByteArray) (h:GOk E R M∧E.length≤64∧L40 s.size):d48 E R M s:=by
 rw[d2l]
 obtain⟨hG,hN,hS⟩:=h
 have hS':s.size≤1099511627776:=hS
 have hlen:=b6b (j8 s E R M) (n:=E.length) (by omega)
 simp only[eq_self,true_and,and_true,z0n,imp_self,l9,m6,n5,g7,g8,PLoop.of,q6,AV.len,g9,z0s,i9,j4,j5,l5,l6,l7,a5t,a3x,d11,PLoop.of,n5]
 refine⟨(),⟨0,by simp,rfl,?_⟩,fun a ha=>⟨fun hlt=>⟨a,⟨0,?_⟩,fun b hb=>⟨fun hlb=>?_,fun hlb=>?_⟩⟩,fun hlt=>?_⟩⟩
 ·simp[a2k]
 ·have ha2:a < E.length:=by have:=z0e hlt; omega
  simp[a44,ha2]
 ·have hb2:b < E.length:=by have:=z0e hlb; omega
  have ha2:a < E.length:=hb.2
  refine⟨(a,b),⟨0,⟨by omega,ha2,hb2⟩,rfl,rfl⟩,fun c hc=>⟨fun hlc=>?_,fun hlc=>⟨fun hf=>?_,fun hf=>?_⟩⟩⟩
  ·have hc2:c < s.size:=by have:=z0e hlc; omega
   exact⟨fun _=>⟨by omega,by omega⟩,fun _=>⟨⟨⟨by omega,by omega⟩,⟨by omega,by omega⟩⟩,⟨hG.1.1,hG.1.2⟩,⟨hG.2.1.1,hG.2.1.2⟩,hG.2.2.1,hG.2.2.2⟩,c + 1,⟨by omega,ha2,hb2⟩,by omega,rfl,wrS (n:=s.size) hc2 hS'⟩
  ·have hc2:c=s.size:=by have:=z0i hlc; omega
   rw[hc2] at hf
   replace hf:j8 s E R M a b=true:=hf
   have h1:=hlen a b hb.2 hb.1
   have e:d6 (j8 s E R M) a (b + 1)=d6 (j8 s E R M) a b ++ [((a:Int),(b:Int))]:=by rw[a04,if_pos hf]
   have e2:b9 (j8 s E R M) E.length a ++ d6 (j8 s E R M) a (b + 1)=(b9 (j8 s E R M) E.length a ++ d6 (j8 s E R M) a b) ++ [((a:Int),(b:Int))]:=by rw[e,z1z]
   refine⟨by omega,by omega,b + 1,⟨by omega,hb.2⟩,by omega,wrS (n:=E.length) hb2 (by omega),?_⟩
   rw[e2]
   have e3:(b9 (j8 s E R M) E.length a ++ d6 (j8 s E R M) a b ++ [((a:Int),(b:Int))]).length=(b9 (j8 s E R M) E.length a ++ d6 (j8 s E R M) a b).length + 1:=by rw[z0x (bs:=[((a:Int),(b:Int))])]; rfl
   exact⟨e3.symm,e3.symm,ap1 (·.1) _ _,ap1 (·.2) _ _⟩
  ·have hc2:c=s.size:=by have:=z0i hlc; omega
   rw[hc2] at hf
   replace hf:j8 s E R M a b=false:=hf
   have e:d6 (j8 s E R M) a (b + 1)=d6 (j8 s E R M) a b:=by rw[a04,if_neg (by rw[hf]; simp),z1f]
   refine⟨b + 1,⟨by omega,hb.2⟩,by omega,wrS (n:=E.length) hb2 (by omega),?_⟩
   rw[e]
   simp
 ·have hb2:b=E.length:=by have:=z0i hlb; omega
  have e:b9 (j8 s E R M) E.length (a + 1)=b9 (j8 s E R M) E.length a ++ d6 (j8 s E R M) a b:=by rw[a1e,hb2]
  refine⟨a + 1,by omega,by omega,wrS (n:=E.length) hb.2 (by omega),?_⟩
  rw[e]
  simp
 ·have ha2:a=E.length:=by have:=z0i hlt; omega
  subst ha2
  rw[a6c]
  exact⟨rfl,⟨fun _ _=>rfl,fun _ _=>rfl⟩,rfl⟩
theorem n107 (nm:List (Option AV)):CallOk Tryz.prog [] 107 (o5 EL none nm [PG,.st] d6o):=x4 Tryz.func107 d92 fun av pre rv h=>by
 unfold d6o at h; split at h <;> cases h
 exact⟨⟨rfl,fun t a e=>by cases e <;> exact z0h _ _⟩,fun hp=>⟨_,v107 _ _ _ _ (hp _ (.head _)),rfl,(m9 (n145 _) t9),u4⟩⟩
def a6p (E:List Ev) (m:Nat) (i:Int):Bool:=
 q9 (evA E i) && (evA E i).k != 3 && (evA E i).k != 4 && (evA E i).en == -1 && (evA E i).ix == c25 E i (evA E i).ag && !((rdE (evA E i) || wrE (evA E i)) && decide ((evA E i).ob ≥ m))
def m8 (f:Int→Bool):Nat→Bool
 | 0=>true
 | j + 1=>m8 f j && f j
theorem a02 {f:Int→Bool}:∀ {n:Nat},m8 f n=true↔∀ i:Nat,i < n→f i=true:=by
 intro n
 induction n with
 | zero=>simp[m8]
 | succ n ih =>
  simp only[m8,z0d,ih]
  constructor
  ·rintro ⟨h1,h2⟩ i hi
   by_cases e:i=n
   ·rw[e]; exact h2
   ·exact h1 i (by omega)
  ·intro h
   exact⟨fun i hi=>h i (by omega),h n (by omega)⟩
theorem a0r {f:Int→Bool} {n j:Nat} (hj:j < n) (h:f j=false):m8 f n=false:=by
 cases e:m8 f n
 ·rfl
 ·rw[a02.1 e j hj] at h; cases h
def a7d (E:List Ev) (m:Nat):Bool:=m8 (a6p E m) E.length
def d6f:SpG:=fun
 | [.ag [.es E,.is R,.rs M]]=>some ([L40 E.length],.rv (.pl (.b (a7d E M.length))))
 | _=>none
def lAl (f:Int→Bool) (n t:Nat):LAnn:=q6 n t (fun j=>m8 f j=true) (fun _=>[]) []
def kLsd (nm:List (Option AV)):Nat × (List MBlk→List SV→Option AR):=(82,o5 EL none nm [PG] d6f)
theorem fo82:p8 Tryz.prog 82:=⟨Tryz.f82,Tryz.func82,by kernel_rfl,by kernel_rfl⟩
def q82D (E:List Ev) (R:List Int) (M:List (List Int)):Prop:=p7 (({ calls:=[kE1 85 q9,kE1 86 rdE,kE1 84 wrE,kNum [some (.es E)]],loops:=[(0,.of (lAl (a6p E M.length) E.length 3))] }:Kit)).tab Tryz.f82 [grV E R M] (grM E R M) (l4 (.b (a7d E M.length)))
theorem d8c (E:List Ev) (R:List Int) (M:List (List Int)):q82D E R M=(
 let a:=E.length=E.length∧R.length=R.length∧M.length=M.length
 let b:=a6p E M.length
 let c:=(↑E.length:Int)
 let d:=PLoop.of (lAl b E.length (3:Nat))
 let e:=(-1:Int)
 ∃(x:PUnit),(∃(x:Nat),(x≤E.length∧m8 b x=true)∧((0:Int)=(↑x:Int)∧True)∧True)∧∀(x_1:Nat),x_1≤E.length∧m8 b x_1=true→(decide ((↑x_1:Int) < c)=true→((0:Int)≤(↑x_1:Int)∧(↑x_1:Int) < c)∧x_1 < E.length∧((!q9 (b6 e0 E x_1) || (b6 e0 E x_1).k ==(3:Int) || (b6 e0 E x_1).k ==(4:Int) || (b6 e0 E x_1).en !=e)=false→E.length=E.length)∧((!q9 (b6 e0 E x_1) || (b6 e0 E x_1).k ==(3:Int) || (b6 e0 E x_1).k ==(4:Int) || (b6 e0 E x_1).en !=e)=false→nE E)∧((!q9 (b6 e0 E x_1) || (b6 e0 E x_1).k ==(3:Int) || (b6 e0 E x_1).k ==(4:Int) || (b6 e0 E x_1).en !=e)=false→((0:Int)≤(↑x_1:Int)∧(↑x_1:Int)≤c)∧E.length≤(1099511627776:Nat))∧((!q9 (b6 e0 E x_1) || (b6 e0 E x_1).k ==(3:Int) || (b6 e0 E x_1).k ==(4:Int) || (b6 e0 E x_1).en !=e || (b6 e0 E x_1).ix !=c25 E (↑x_1:Int) (b6 e0 E x_1).ag)=true→false=a7d E M.length)∧((!q9 (b6 e0 E x_1) || (b6 e0 E x_1).k ==(3:Int) || (b6 e0 E x_1).k ==(4:Int) || (b6 e0 E x_1).en !=e || (b6 e0 E x_1).ix !=c25 E (↑x_1:Int) (b6 e0 E x_1).ag)=false→(((rdE (b6 e0 E x_1) || wrE (b6 e0 E x_1)) && decide ((b6 e0 E x_1).ob ≥ (↑M.length:Int)))=true→false=a7d E M.length)∧(((rdE (b6 e0 E x_1) || wrE (b6 e0 E x_1)) && decide ((b6 e0 E x_1).ob ≥ (↑M.length:Int)))=false→∃(x_2:Nat),(x_2≤E.length∧m8 b x_2=true)∧(d.ann x).mu x_2 < (d.ann x).mu x_1∧(a∧True∧IntKind.i64.wrap ((↑x_1:Int) + (1:Int))=(↑x_2:Int)∧True)∧eqA E.length (i6 E)∧eqA R.length (f7 R)∧eqA M.length (i4 M)∧a∧True)))∧(decide ((↑x_1:Int) < c)=false→true=a7d E M.length)):=by kernel_rfl
theorem v82 (E:List Ev) (R:List Int) (M:List (List Int)) (h:L40 E.length):q82D E R M:=by
 rw[d8c]
 have hL:E.length≤1099511627776:=h
 simp only[eq_self,true_and,and_true,z0n,imp_self,l9,m6,n5,g7,g8,PLoop.of,q6,AV.len,g9,z0s,i9,j4,j5,l5,l6,l7,lAl]
 refine⟨(),⟨0,⟨by omega,rfl⟩,rfl⟩,fun j hj=>⟨fun hlt=>?_,fun hlt=>?_⟩⟩
 ·have h1:j < E.length:=by have:=z0e hlt; omega
  have e:a6p E M.length j=(q9 (b6 e0 E j) && (b6 e0 E j).k != 3 && (b6 e0 E j).k != 4 && (b6 e0 E j).en == -1 && (b6 e0 E j).ix == c25 E j (b6 e0 E j).ag && !((rdE (b6 e0 E j) || wrE (b6 e0 E j)) && decide ((b6 e0 E j).ob ≥ M.length))):=rfl
  refine⟨⟨by omega,by omega⟩,h1,fun _=>⟨⟨by omega,by omega⟩,hL⟩,fun h2=>?_,fun h2=>⟨fun h3=>?_,fun h3=>⟨j + 1,⟨by omega,?_⟩,by omega,wrS (n:=E.length) h1 hL⟩⟩⟩
  ·refine(a0r h1 ?_).symm
   rw[e]; grind
  ·refine(a0r h1 ?_).symm
   rw[e,h3]; simp
  ·simp only[m8,hj.2,z1h]
   rw[e,h3]; grind
 ·have h1:j=E.length:=by have:=z0i hlt; omega
  have:=hj.2
  rw[h1] at this
  exact this.symm
theorem n82 (nm:List (Option AV)):CallOk Tryz.prog [] 82 (o5 EL none nm [PG] d6f):=x4 Tryz.func82 fo82 fun av pre rv h=>by
 unfold d6f at h; split at h <;> cases h
 exact⟨⟨rfl,fun t a e=>by cases e <;> exact z0h _ _⟩,fun hp=>⟨_,v82 _ _ _ (hp _ (.head _)),rfl,(m9 (n85 _) (m9 (n86 _) (m9 (n84 _) (m9 (n124 _) t9)))),u4⟩⟩
end Go.Proofs.YtaeeaniofljmnaaGreatDoor

/-
  A part of the proof (H18).
-/
import Derived.Test.YtaeeaniofljmnaaGreatDoorH14
namespace Go.Proofs.YtaeeaniofljmnaaGreatDoor
set_option linter.unusedSimpArgs false
set_option linter.unusedVariables false
open Go Go.Proofs.YtaeeaniofljmnaaGreatDoor.Sx
set_option maxRecDepth 100000
def c82 (a b:Ev):Bool:=(decide (a9e a ≥ 0) && a9e a == a9e b) || (decide (a3j a ≥ 0) && a3j a == a3j b)
def syG:GF:=fun E _ _ i k=>decide (i < k) && c82 (evA E i) (evA E k)
def w8 (M:List (List Int)) (o:Int):List Int:=b6 [] M o.toNat
def moB (M:List (List Int)) (a b:Ev) (i k:Int):Bool:=wrE a && wrE b && a.ob == b.ob && decide (a4t (w8 M a.ob) i < a4t (w8 M a.ob) k)
def moG:GF:=fun E _ M i k=>moB M (evA E i) (evA E k) i k
def frG:GF:=fun E R M i k=>rdE (evA E i) && wrE (evA E k) && (evA E i).ob == (evA E k).ob && !(i == k) && (inA R i == -1 || moG E R M (inA R i) k)
def b9y (E:List Ev) (M:List (List Int)):Prop:=(∀ r∈M,L40 r.length)∧∀ i:Int,0≤i→i < E.length→wrE (evA E i)=true→0≤(evA E i).ob∧(evA E i).ob < M.length
def pcM:GP:=fun E _ M i k=>b06 E i k∧b9y E M
def pcF:GP:=fun E R M i k=>b06 E i k∧b9y E M∧R.length=E.length∧∀ j:Int,0≤j→j < E.length→rdE (evA E j)=true→inA R j = -1∨(0≤inA R j∧inA R j < E.length)
def b3w (pc:GP) (fn:GF):SpG:=fun
 | [.ag [.es E,.is R,.rs M],.lf (.i i),.lf (.i k)]=>some ([pc E R M i k],.rv (.pl (.b (fn E R M i k))))
 | _=>none
def c3l (n:Nat) (pc:GP) (fn:GF) (nm:List (Option AV)):Nat × (List MBlk→List SV→Option AR):=(n,n6 EL none nm [PG,.lf .i,.lf .i] (b3w pc fn))
theorem c7c {M:List (List Int)} {o:Int} (h0:0≤o) (h:o < M.length):w8 M o∈M:=by
 have h1:o.toNat < M.length:=by omega
 rw[w8,q8 [] M _ h1]
 exact z2e h1
theorem d81:o6 Tryz.prog 184:=⟨Tryz.f184,Tryz.func184,by kernel_rfl,by kernel_rfl⟩
def d39 (E:List Ev) (R:List Int) (M:List (List Int)) (i k:Int):Prop:=n7 (({}:Kit)).tab Tryz.f184 [grV E R M,.i .i64 i,.i .i64 k] (grM E R M) (l4 (.b (poG E R M i k)))
theorem d20 (E:List Ev) (R:List Int) (M:List (List Int)) (i k:Int):d39 E R M i k=(((0:Int)≤i∧i < (↑E.length:Int))∧i.toNat < E.length∧((0:Int)≤k∧k < (↑E.length:Int))∧k.toNat < E.length∧(((b6 e0 E i.toNat).ag == (b6 e0 E k.toNat).ag && decide (i < k) || (b6 e0 E i.toNat).k == (16:Int) && (b6 e0 E i.toNat).ob == (b6 e0 E k.toNat).ag || (b6 e0 E k.toNat).k == (17:Int) && (b6 e0 E k.toNat).ob == (b6 e0 E i.toNat).ag)=true→true=poG E R M i k)∧(((b6 e0 E i.toNat).ag == (b6 e0 E k.toNat).ag && decide (i < k) || (b6 e0 E i.toNat).k == (16:Int) && (b6 e0 E i.toNat).ob == (b6 e0 E k.toNat).ag || (b6 e0 E k.toNat).k == (17:Int) && (b6 e0 E k.toNat).ob == (b6 e0 E i.toNat).ag)=false→((b6 e0 E i.toNat).k == (16:Int) && (b6 e0 E k.toNat).k == (17:Int) && (b6 e0 E i.toNat).ob == (b6 e0 E k.toNat).ob)=poG E R M i k)):=by kernel_rfl
theorem v184 (E:List Ev) (R:List Int) (M:List (List Int)) (i k:Int) (h:pcE E R M i k):d39 E R M i k:=by
 rw[d20]
 refine⟨h.1,a0l h.1,h.2,a0l h.2,?_⟩
 simp only[poG,poF,poB,evA]
 grind
theorem fo94:o6 Tryz.prog 94:=⟨Tryz.f94,Tryz.func94,by kernel_rfl,by kernel_rfl⟩
def q94D (E:List Ev) (R:List Int) (M:List (List Int)) (i k:Int):Prop:=n7 (({ calls:=[c99 139 a9e,c99 140 a3j] }:Kit)).tab Tryz.f94 [grV E R M,.i .i64 i,.i .i64 k] (grM E R M) (l4 (.b (syG E R M i k)))
theorem d6f (E:List Ev) (R:List Int) (M:List (List Int)) (i k:Int):q94D E R M i k=(((0:Int)≤i∧i < (↑E.length:Int))∧i.toNat < E.length∧((0:Int)≤k∧k < (↑E.length:Int))∧k.toNat < E.length∧(decide (i < k) && (decide (a9e (b6 e0 E i.toNat) ≥ (0:Int)) && a9e (b6 e0 E i.toNat) == a9e (b6 e0 E k.toNat) || decide (a3j (b6 e0 E i.toNat) ≥ (0:Int)) && a3j (b6 e0 E i.toNat) == a3j (b6 e0 E k.toNat)))=syG E R M i k):=by kernel_rfl
theorem v94 (E:List Ev) (R:List Int) (M:List (List Int)) (i k:Int) (h:pcE E R M i k):q94D E R M i k:=by
 rw[d6f]
 refine⟨h.1,a0l h.1,h.2,a0l h.2,?_⟩
 simp only[syG,c82,evA]
 first | rfl | grind
theorem fo95:o6 Tryz.prog 95:=⟨Tryz.f95,Tryz.func95,by kernel_rfl,by kernel_rfl⟩
def q95D (E:List Ev) (R:List Int) (M:List (List Int)) (i k:Int):Prop:=n7 (({ calls:=[kE1 84 wrE,d3t 66 []] }:Kit)).tab Tryz.f95 [grV E R M,.i .i64 i,.i .i64 k] (grM E R M) (l4 (.b (moG E R M i k)))
theorem d6g (E:List Ev) (R:List Int) (M:List (List Int)) (i k:Int):q95D E R M i k=(((0:Int)≤i∧i < (↑E.length:Int))∧i.toNat < E.length∧((0:Int)≤k∧k < (↑E.length:Int))∧k.toNat < E.length∧((wrE (b6 e0 E i.toNat) && wrE (b6 e0 E k.toNat) && (b6 e0 E i.toNat).ob == (b6 e0 E k.toNat).ob)=true→(0:Int)≤(b6 e0 E i.toNat).ob∧(b6 e0 E i.toNat).ob < (↑M.length:Int))∧((wrE (b6 e0 E i.toNat) && wrE (b6 e0 E k.toNat) && (b6 e0 E i.toNat).ob == (b6 e0 E k.toNat).ob)=true→(b6 e0 E i.toNat).ob.toNat < M.length)∧((wrE (b6 e0 E i.toNat) && wrE (b6 e0 E k.toNat) && (b6 e0 E i.toNat).ob == (b6 e0 E k.toNat).ob)=true→(b6 [] M (b6 e0 E i.toNat).ob.toNat).length=(b6 [] M (b6 e0 E i.toNat).ob.toNat).length)∧((wrE (b6 e0 E i.toNat) && wrE (b6 e0 E k.toNat) && (b6 e0 E i.toNat).ob == (b6 e0 E k.toNat).ob)=true→(mkN (fun(i_1:Nat)=>b6 (0:Int) (b6 [] M (b6 e0 E i.toNat).ob.toNat) i_1) (b6 [] M (b6 e0 E i.toNat).ob.toNat).length).length≤(1099511627776:Nat))∧((wrE (b6 e0 E i.toNat) && wrE (b6 e0 E k.toNat) && (b6 e0 E i.toNat).ob == (b6 e0 E k.toNat).ob)=true→(0:Int)≤(b6 e0 E i.toNat).ob∧(b6 e0 E i.toNat).ob < (↑M.length:Int))∧((wrE (b6 e0 E i.toNat) && wrE (b6 e0 E k.toNat) && (b6 e0 E i.toNat).ob == (b6 e0 E k.toNat).ob)=true→(b6 e0 E i.toNat).ob.toNat < M.length)∧((wrE (b6 e0 E i.toNat) && wrE (b6 e0 E k.toNat) && (b6 e0 E i.toNat).ob == (b6 e0 E k.toNat).ob)=true→(b6 [] M (b6 e0 E
 i.toNat).ob.toNat).length=(b6 [] M (b6 e0 E i.toNat).ob.toNat).length)∧((wrE (b6 e0 E i.toNat) && wrE (b6 e0 E k.toNat) && (b6 e0 E i.toNat).ob == (b6 e0 E k.toNat).ob)=true→(mkN (fun(i_1:Nat)=>b6 (0:Int) (b6 [] M (b6 e0 E i.toNat).ob.toNat) i_1) (b6 [] M (b6 e0 E i.toNat).ob.toNat).length).length≤(1099511627776:Nat))∧(wrE (b6 e0 E i.toNat) && wrE (b6 e0 E k.toNat) && (b6 e0 E i.toNat).ob == (b6 e0 E k.toNat).ob && decide (a4t (mkN (fun(i_1:Nat)=>b6 (0:Int) (b6 [] M (b6 e0 E i.toNat).ob.toNat) i_1) (b6 [] M (b6 e0 E i.toNat).ob.toNat).length) i < a4t (mkN (fun(i_1:Nat)=>b6 (0:Int) (b6 [] M (b6 e0 E i.toNat).ob.toNat) i_1) (b6 [] M (b6 e0 E i.toNat).ob.toNat).length) k))=moG E R M i k):=by kernel_rfl
theorem v95 (E:List Ev) (R:List Int) (M:List (List Int)) (i k:Int) (h:pcM E R M i k):q95D E R M i k:=by
 rw[d6g]
 obtain⟨⟨hi,hk⟩,hM,hW⟩:=h
 have key:(wrE (b6 e0 E i.toNat) && wrE (b6 e0 E k.toNat) && (b6 e0 E i.toNat).ob == (b6 e0 E k.toNat).ob)=true→0≤(b6 e0 E i.toNat).ob∧(b6 e0 E i.toNat).ob < M.length:=fun hw=>hW i hi.1 hi.2 (by simp only[z0d] at hw; exact hw.1.1)
 have kl:(wrE (b6 e0 E i.toNat) && wrE (b6 e0 E k.toNat) && (b6 e0 E i.toNat).ob == (b6 e0 E k.toNat).ob)=true→(b6 [] M (b6 e0 E i.toNat).ob.toNat).length≤1099511627776:=fun hw=>hM _ (c7c (key hw).1 (key hw).2)
 have kn:=fun hw=>a0l (key hw)
 have hi2:=a0l hi
 have hk2:=a0l hk
 simp only[eq_self,true_and,and_true,z0o,imp_self,m5,m6,m9,g7,g9,PLoop.of,p9,AV.len,i5,z0s,j4,j7,j8,l7,l8,l9]
 exact⟨hi,hi2,hk,hk2,key,kn,kl,key,kn,kl,rfl⟩
theorem d82:o6 Tryz.prog 185:=⟨Tryz.f185,Tryz.func185,by kernel_rfl,by kernel_rfl⟩
def d3a (E:List Ev) (R:List Int) (M:List (List Int)) (i k:Int):Prop:=n7 (({ calls:=[kE1 86 rdE,kE1 84 wrE,c3l 95 pcM moG (nmG E R M)] }:Kit)).tab Tryz.f185 [grV E R M,.i .i64 i,.i .i64 k] (grM E R M) (l4 (.b (frG E R M i k)))
theorem d21 (E:List Ev) (R:List Int) (M:List (List Int)) (i k:Int):d3a E R M i k=(((0:Int)≤i∧i < (↑E.length:Int))∧i.toNat < E.length∧((0:Int)≤k∧k < (↑E.length:Int))∧k.toNat < E.length∧((rdE (b6 e0 E i.toNat) && wrE (b6 e0 E k.toNat) && (b6 e0 E i.toNat).ob == (b6 e0 E k.toNat).ob && i != k)=true→(0:Int)≤i∧i < (↑R.length:Int))∧((rdE (b6 e0 E i.toNat) && wrE (b6 e0 E k.toNat) && (b6 e0 E i.toNat).ob == (b6 e0 E k.toNat).ob && i != k)=true→i.toNat < R.length)∧((b6 (0:Int) R i.toNat == (-1:Int))=false→(rdE (b6 e0 E i.toNat) && wrE (b6 e0 E k.toNat) && (b6 e0 E i.toNat).ob == (b6 e0 E k.toNat).ob && i != k)=true→(0:Int)≤i∧i < (↑R.length:Int))∧((b6 (0:Int) R i.toNat == (-1:Int))=false→(rdE (b6 e0 E i.toNat) && wrE (b6 e0 E k.toNat) && (b6 e0 E i.toNat).ob == (b6 e0 E k.toNat).ob && i != k)=true→i.toNat < R.length)∧((b6 (0:Int) R i.toNat == (-1:Int))=false→(rdE (b6 e0 E i.toNat) && wrE (b6 e0 E k.toNat) && (b6 e0 E i.toNat).ob == (b6 e0 E k.toNat).ob && i != k)=true→E.length=E.length)∧((b6 (0:Int) R i.toNat == (-1:Int))=false→(rdE (b6 e0 E i.toNat) && wrE (b6 e0 E k.toNat) && (b6 e0 E i.toNat).ob == (b6 e0 E k.toNat).ob && i != k)=true→R.length=R.length)∧((b6 (0:Int) R i.toNat == (-1:Int))=false→(rdE (b6 e0 E i.toNat) && wrE (b6 e0 E k.toNat) && (b6 e0 E i.toNat).ob == (b6 e0 E k.toNat).ob && i != k)=true→M.length=M.length)∧((b6 (0:Int) R i.toNat == (-1:Int)) =
 false→(rdE (b6 e0 E i.toNat) && wrE (b6 e0 E k.toNat) && (b6 e0 E i.toNat).ob == (b6 e0 E k.toNat).ob && i != k)=true→nE E)∧((b6 (0:Int) R i.toNat == (-1:Int))=false→(rdE (b6 e0 E i.toNat) && wrE (b6 e0 E k.toNat) && (b6 e0 E i.toNat).ob == (b6 e0 E k.toNat).ob && i != k)=true→nI R)∧((b6 (0:Int) R i.toNat == (-1:Int))=false→(rdE (b6 e0 E i.toNat) && wrE (b6 e0 E k.toNat) && (b6 e0 E i.toNat).ob == (b6 e0 E k.toNat).ob && i != k)=true→nR M)∧((b6 (0:Int) R i.toNat == (-1:Int))=false→(rdE (b6 e0 E i.toNat) && wrE (b6 e0 E k.toNat) && (b6 e0 E i.toNat).ob == (b6 e0 E k.toNat).ob && i != k)=true→(((0:Int)≤b6 (0:Int) R i.toNat∧b6 (0:Int) R i.toNat < (↑E.length:Int))∧(0:Int)≤k∧k < (↑E.length:Int))∧(∀(r:List Int),List.Mem r M→r.length≤(1099511627776:Nat))∧∀(i:Int),(0:Int)≤i→i < (↑E.length:Int)→wrE (evA E i)=true→(0:Int)≤(evA E i).ob∧(evA E i).ob < (↑M.length:Int))∧(rdE (b6 e0 E i.toNat) && wrE (b6 e0 E k.toNat) && (b6 e0 E i.toNat).ob == (b6 e0 E k.toNat).ob && i != k && (b6 (0:Int) R i.toNat == (-1:Int) || moG E R M (b6 (0:Int) R i.toNat) k))=frG E R M i k):=by kernel_rfl
theorem v185 (E:List Ev) (R:List Int) (M:List (List Int)) (i k:Int) (h:pcF E R M i k):d3a E R M i k:=by
 rw[d21]
 obtain⟨⟨hi,hk⟩,hM,hR,hF⟩:=h
 have hi2:=a0l hi
 have hk2:=a0l hk
 have hiR:0≤i∧i < R.length:=by omega
 have hiR2:=a0l hiR
 simp only[eq_self,true_and,and_true,z0o,imp_self,m5,m6,m9,g7,g9,PLoop.of,p9,AV.len,i5,z0s,j4,j7,j8,l7,l8,l9]
 refine⟨hi,hi2,hk,hk2,fun _=>hiR,fun _=>hiR2,fun _ _=>hiR,fun _ _=>hiR2,fun h1 h2=>⟨⟨?_,hk⟩,hM.1,hM.2⟩,rfl⟩
 simp only[z0d] at h2
 rcases hF i hi.1 hi.2 h2.1.1.1 with h3 | h3
 ·simp only[inA] at h3; rw[h3] at h1; simp at h1
 ·exact h3
theorem n184 (nm:List (Option AV)):CallOk Tryz.prog [] 184 (n6 EL none nm [PG,.lf .i,.lf .i] (b3w pcE poG)):=x4 Tryz.func184 d81 fun av pre rv h=>by
 unfold b3w at h; split at h <;> cases h
 exact⟨⟨rfl,fun t a e=>by cases e <;> exact z0h _ _⟩,fun hp=>⟨_,v184 _ _ _ _ _ (hp _ (.head _)),rfl,t6,t7⟩⟩
theorem n94 (nm:List (Option AV)):CallOk Tryz.prog [] 94 (n6 EL none nm [PG,.lf .i,.lf .i] (b3w pcE syG)):=x4 Tryz.func94 fo94 fun av pre rv h=>by
 unfold b3w at h; split at h <;> cases h
 exact⟨⟨rfl,fun t a e=>by cases e <;> exact z0h _ _⟩,fun hp=>⟨_,v94 _ _ _ _ _ (hp _ (.head _)),rfl,(m4 (n139 _) (m4 (n140 _) t6)),t7⟩⟩
theorem n95 (nm:List (Option AV)):CallOk Tryz.prog [] 95 (n6 EL none nm [PG,.lf .i,.lf .i] (b3w pcM moG)):=x4 Tryz.func95 fo95 fun av pre rv h=>by
 unfold b3w at h; split at h <;> cases h
 exact⟨⟨rfl,fun t a e=>by cases e <;> exact z0h _ _⟩,fun hp=>⟨_,v95 _ _ _ _ _ (hp _ (.head _)),rfl,(m4 (n84 _) (m4 (n66 _) t6)),t7⟩⟩
theorem n185 (nm:List (Option AV)):CallOk Tryz.prog [] 185 (n6 EL none nm [PG,.lf .i,.lf .i] (b3w pcF frG)):=x4 Tryz.func185 d82 fun av pre rv h=>by
 unfold b3w at h; split at h <;> cases h
 exact⟨⟨rfl,fun t a e=>by cases e <;> exact z0h _ _⟩,fun hp=>⟨_,v185 _ _ _ _ _ (hp _ (.head _)),rfl,(m4 (n86 _) (m4 (n84 _) (m4 (n95 _) t6))),t7⟩⟩
def a44 (E:List Ev) (R:List Int) (i:Int):Nat→Int→Bool
 | 0,_=>false
 | f + 1,x=>bif decide (x < 0) then false else bif x == i then true else bif (evA E x).k == 5 then a44 E R i f (inA R x) else false
def swG:GF:=fun E R _ i k=>wrE (evA E i) && (evA E i).od == 2 && rdE (evA E k) && (evA E k).od == 2 && a44 E R i (E.length + 1) (inA R k)
def atF (R:List Int) (x:Int):Nat→Int
 | 0=>x
 | s + 1=>inA R (atF R x s)
def b0x (E:List Ev) (R:List Int):Prop:=R.length=E.length∧∀ j:Int,0≤j→j < E.length→inA R j < E.length
def pcS:GP:=fun E R _ i k=>b06 E i k∧b0x E R∧L40 E.length
def c9e (E:List Ev) (R:List Int) (i k:Int) (t x:Nat):LAnn where
 X:=Nat
 inv:=fun s=>s≤E.length + 1∧a44 E R i (E.length + 1) (inA R k)=a44 E R i (E.length + 1 - s) (atF R (inA R k) s)∧atF R (inA R k) s < E.length
 slots:=fun s=>[(t,.i .i64 (s:Int)),(x,.i .i64 (atF R (inA R k) s))]
 mem:=fun _=>[]
 mu:=fun s=>E.length + 1 - s
 kill:=[]
def a1c (E:List Ev) (R:List Int) (i:Int):Bool:=
 bif !rdE (evA E i) then inA R i == -2 else bif decide (inA R i < 0) || decide (inA R i ≥ E.length) then inA R i == -1 else inA R i != i && wrE (evA E (inA R i)) && (evA E (inA R i)).ob == (evA E i).ob
def d4r:SpG:=fun
 | [.ag [.es E,.is R,.rs M],.lf (.i i)]=>some ([(0≤i∧i < E.length)∧R.length=E.length],.rv (.pl (.b (a1c E R i))))
 | _=>none
def kSrc (nm:List (Option AV)):Nat × (List MBlk→List SV→Option AR):=(83,n6 EL none nm [PG,.lf .i] d4r)
def a45 (c:Int):GF:=fun E R M i k=>bif c == 112 then poG E R M i k else bif c == 114 then rfG E R M i k else bif c == 109 then moG E R M i k else bif c == 102 then frG E R M i k else bif c == 115 then syG E R M i k else swG E R M i k
def GOk (E:List Ev) (R:List Int) (M:List (List Int)):Prop:=b9y E M∧b0x E R∧L40 E.length∧∀ j:Int,0≤j→j < E.length→rdE (evA E j)=true→inA R j = -1∨(0≤inA R j∧inA R j < E.length)
def pcG:GP:=fun E R M i k=>b06 E i k∧GOk E R M
def d4b:SpG:=fun
 | [.ag [.es E,.is R,.rs M],.c c,.lf (.i i),.lf (.i k)]=>some ([pcG E R M i k],.rv (.pl (.b (a45 c E R M i k))))
 | _=>none
def kBel (nm:List (Option AV)):Nat × (List MBlk→List SV→Option AR):=(145,n6 EL none nm [PG,.c,.lf .i,.lf .i] d4b)
def a4f (s:ByteArray) (f:Int→Bool):Nat→Bool
 | 0=>false
 | c + 1=>a4f s f c || f (b9l s c)
def d6 (s:ByteArray):GF:=fun E R M i k=>a4f s (fun c=>a45 c E R M i k) s.size
theorem d83:o6 Tryz.prog 186:=⟨Tryz.f186,Tryz.func186,by kernel_rfl,by kernel_rfl⟩
def d3b (E:List Ev) (R:List Int) (M:List (List Int)) (i k:Int):Prop:=n7 (({ calls:=[kE1 84 wrE,kE1 86 rdE],loops:=[(0,.of (c9e E R i k 10 9))] }:Kit)).tab Tryz.f186 [grV E R M,.i .i64 i,.i .i64 k] (grM E R M) (l4 (.b (swG E R M i k)))
theorem d22 (E:List Ev) (R:List Int) (M:List (List Int)) (i k:Int):d3b E R M i k=(((0:Int)≤i∧i < (↑E.length:Int))∧i.toNat < E.length∧((0:Int)≤k∧k < (↑E.length:Int))∧k.toNat < E.length∧((!wrE (b6 e0 E i.toNat) || (b6 e0 E i.toNat).od != (2:Int) || !rdE (b6 e0 E k.toNat) || (b6 e0 E k.toNat).od != (2:Int))=true→false=swG E R M i k)∧((!wrE (b6 e0 E i.toNat) || (b6 e0 E i.toNat).od != (2:Int) || !rdE (b6 e0 E k.toNat) || (b6 e0 E k.toNat).od != (2:Int))=false→((0:Int)≤k∧k < (↑R.length:Int))∧k.toNat < R.length∧∃(x:PUnit),(∃(x:Nat),(x≤E.length + (1:Nat)∧a44 E R i (E.length + (1:Nat)) (inA R k)=a44 E R i (E.length + (1:Nat) - x) (atF R (inA R k) x)∧atF R (inA R k) x < (↑E.length:Int))∧((0:Int)=(↑x:Int)∧b6 (0:Int) R k.toNat=atF R (inA R k) x∧True)∧True)∧∀(x_1:Nat),x_1≤E.length + (1:Nat)∧a44 E R i (E.length + (1:Nat)) (inA R k)=a44 E R i (E.length + (1:Nat) - x_1) (atF R (inA R k) x_1)∧atF R (inA R k) x_1 < (↑E.length:Int)→((decide ((↑x_1:Int)≤(↑E.length:Int)) && decide (atF R (inA R k) x_1 ≥ (0:Int)))=true→((atF R (inA R k) x_1 == i)=true→true=swG E R M i k)∧((atF R (inA R k) x_1 == i)=false→((0:Int)≤atF R (inA R k) x_1∧atF R (inA R k) x_1 < (↑E.length:Int))∧(atF R (inA R k) x_1).toNat < E.length∧(((b6 e0 E (atF R (inA R k) x_1).toNat).k != (5:Int))=true→false=swG E R M i k)∧(((b6 e0 E (atF R (inA R k) x_1).toNat).k != (5:Int))=false→((0:Int)≤atF R (inA R k)
 x_1∧atF R (inA R k) x_1 < (↑R.length:Int))∧(atF R (inA R k) x_1).toNat < R.length∧∃(x_2:Nat),(x_2≤E.length + (1:Nat)∧a44 E R i (E.length + (1:Nat)) (inA R k)=a44 E R i (E.length + (1:Nat) - x_2) (atF R (inA R k) x_2)∧atF R (inA R k) x_2 < (↑E.length:Int))∧((PLoop.of (c9e E R i k (10:Nat) (9:Nat))).ann x).mu x_2 < ((PLoop.of (c9e E R i k (10:Nat) (9:Nat))).ann x).mu x_1∧((E.length=E.length∧R.length=R.length∧M.length=M.length)∧i=i∧k=k∧True∧True∧True∧b6 (0:Int) R (atF R (inA R k) x_1).toNat=atF R (inA R k) x_2∧IntKind.i64.wrap ((↑x_1:Int) + (1:Int))=(↑x_2:Int)∧True∧E.length=E.length∧i=i∧i.toNat=i.toNat∧((b6 e0 E i.toNat).ag=(b6 e0 E i.toNat).ag∧(b6 e0 E i.toNat).ix=(b6 e0 E i.toNat).ix∧(b6 e0 E i.toNat).k=(b6 e0 E i.toNat).k∧(b6 e0 E i.toNat).ob=(b6 e0 E i.toNat).ob∧(b6 e0 E i.toNat).mu=(b6 e0 E i.toNat).mu∧(b6 e0 E i.toNat).en=(b6 e0 E i.toNat).en∧(b6 e0 E i.toNat).od=(b6 e0 E i.toNat).od∧(b6 e0 E i.toNat).rd=(b6 e0 E i.toNat).rd∧(b6 e0 E i.toNat).wr=(b6 e0 E i.toNat).wr)∧True∧E.length=E.length∧k=k∧k.toNat=k.toNat∧((b6 e0 E k.toNat).ag=(b6 e0 E k.toNat).ag∧(b6 e0 E k.toNat).ix=(b6 e0 E k.toNat).ix∧(b6 e0 E k.toNat).k=(b6 e0 E k.toNat).k∧(b6 e0 E k.toNat).ob=(b6 e0 E k.toNat).ob∧(b6 e0 E k.toNat).mu=(b6 e0 E k.toNat).mu∧(b6 e0 E k.toNat).en=(b6
 e0 E k.toNat).en∧(b6 e0 E k.toNat).od=(b6 e0 E k.toNat).od∧(b6 e0 E k.toNat).rd=(b6 e0 E k.toNat).rd∧(b6 e0 E k.toNat).wr=(b6 e0 E k.toNat).wr)∧((b6 e0 E i.toNat).ag=(b6 e0 E i.toNat).ag∧(b6 e0 E i.toNat).ix=(b6 e0 E i.toNat).ix∧(b6 e0 E i.toNat).k=(b6 e0 E i.toNat).k∧(b6 e0 E i.toNat).ob=(b6 e0 E i.toNat).ob∧(b6 e0 E i.toNat).mu=(b6 e0 E i.toNat).mu∧(b6 e0 E i.toNat).en=(b6 e0 E i.toNat).en∧(b6 e0 E i.toNat).od=(b6 e0 E i.toNat).od∧(b6 e0 E i.toNat).rd=(b6 e0 E i.toNat).rd∧(b6 e0 E i.toNat).wr=(b6 e0 E i.toNat).wr)∧wrE (b6 e0 E i.toNat)=wrE (b6 e0 E i.toNat)∧(!wrE (b6 e0 E i.toNat)) = !wrE (b6 e0 E i.toNat)∧(!wrE (b6 e0 E i.toNat)) = !wrE (b6 e0 E i.toNat)∧(!wrE (b6 e0 E i.toNat) || (b6 e0 E i.toNat).od != (2:Int))=(!wrE (b6 e0 E i.toNat) || (b6 e0 E i.toNat).od != (2:Int))∧(!wrE (b6 e0 E i.toNat) || (b6 e0 E i.toNat).od != (2:Int))=(!wrE (b6 e0 E i.toNat) || (b6 e0 E i.toNat).od != (2:Int))∧(!wrE (b6 e0 E i.toNat) || (b6 e0 E i.toNat).od != (2:Int) || !rdE (b6 e0 E k.toNat))=(!wrE (b6 e0 E i.toNat) || (b6 e0 E i.toNat).od != (2:Int) || !rdE (b6 e0 E k.toNat))∧(!wrE (b6 e0 E i.toNat) || (b6 e0 E i.toNat).od != (2:Int) || !rdE (b6 e0 E k.toNat))=(!wrE (b6 e0 E i.toNat) || (b6 e0 E i.toNat).od != (2:Int) || !rdE (b6 e0 E k.toNat))∧false=false∧True∧R.length=R.length∧k=k ∧
 k.toNat=k.toNat∧b6 (0:Int) R k.toNat=b6 (0:Int) R k.toNat∧True)∧eqA E.length (l5 E)∧eqA R.length (j5 R)∧eqA M.length (j9 M)∧(E.length=E.length∧R.length=R.length∧M.length=M.length)∧((b6 e0 E i.toNat).ag=(b6 e0 E i.toNat).ag∧(b6 e0 E i.toNat).ix=(b6 e0 E i.toNat).ix∧(b6 e0 E i.toNat).k=(b6 e0 E i.toNat).k∧(b6 e0 E i.toNat).ob=(b6 e0 E i.toNat).ob∧(b6 e0 E i.toNat).mu=(b6 e0 E i.toNat).mu∧(b6 e0 E i.toNat).en=(b6 e0 E i.toNat).en∧(b6 e0 E i.toNat).od=(b6 e0 E i.toNat).od∧(b6 e0 E i.toNat).rd=(b6 e0 E i.toNat).rd∧(b6 e0 E i.toNat).wr=(b6 e0 E i.toNat).wr)∧((b6 e0 E k.toNat).ag=(b6 e0 E k.toNat).ag∧(b6 e0 E k.toNat).ix=(b6 e0 E k.toNat).ix∧(b6 e0 E k.toNat).k=(b6 e0 E k.toNat).k∧(b6 e0 E k.toNat).ob=(b6 e0 E k.toNat).ob∧(b6 e0 E k.toNat).mu=(b6 e0 E k.toNat).mu∧(b6 e0 E k.toNat).en=(b6 e0 E k.toNat).en∧(b6 e0 E k.toNat).od=(b6 e0 E k.toNat).od∧(b6 e0 E k.toNat).rd=(b6 e0 E k.toNat).rd∧(b6 e0 E k.toNat).wr=(b6 e0 E k.toNat).wr)∧True)))∧((decide ((↑x_1:Int)≤(↑E.length:Int)) && decide (atF R (inA R k) x_1 ≥ (0:Int)))=false→false=swG E R M i k))):=by kernel_rfl
theorem v186 (E:List Ev) (R:List Int) (M:List (List Int)) (i k:Int) (h:pcS E R M i k):d3b E R M i k:=by
 rw[d22]
 obtain⟨⟨hi,hk⟩,⟨hR,hX⟩,hL⟩:=h
 have hL':E.length≤1099511627776:=hL
 have hkR:0≤k∧k < R.length:=by omega
 have n1:=a0l hi
 have n2:=a0l hk
 have n3:=a0l hkR
 simp only[eq_self,true_and,and_true,z0o,imp_self,m5,m6,m9,g7,g9,PLoop.of,p9,AV.len,i5,z0s,j4,j7,j8,l7,l8,l9,c9e]
 refine⟨hi,n1,hk,n2,fun hc=>?_,fun hc=>?_⟩
 ·simp only[swG,evA]
  revert hc
  generalize wrE (b6 e0 E i.toNat)=p
  generalize rdE (b6 e0 E k.toNat)=q
  cases p <;> cases q <;> simp <;> grind
 have hsw:swG E R M i k=a44 E R i (E.length + 1) (inA R k):=by
  simp only[z1n,Bool.not_eq_false',bne_eq_false_iff_eq] at hc
  obtain⟨⟨⟨h1,h2⟩,h3⟩,h4⟩:=hc
  simp[swG,evA,h1,h2,h3,h4]
 refine⟨hkR,n3,(),⟨0,⟨by omega,rfl,hX k hk.1 hk.2⟩,rfl,rfl⟩,fun s hs=>?_⟩
 obtain⟨hs1,hs2,hs3⟩:=hs
 rw[hsw]
 generalize a44 E R i (E.length + 1) (inA R k)=res at *
 refine⟨fun hcd=>?_,fun hcd=>?_⟩
 ·simp only[z0d,z1p] at hcd
  obtain⟨hc1,hc2⟩:=hcd
  have hf:E.length + 1 - s=(E.length - s) + 1:=by omega
  have hneg:decide (atF R (inA R k) s < 0)=false:=by simp; omega
  rw[hf,a44,hneg,z0l] at hs2
  have b1:0≤atF R (inA R k) s∧atF R (inA R k) s < E.length:=⟨hc2,hs3⟩
  have b2:0≤atF R (inA R k) s∧atF R (inA R k) s < R.length:=by omega
  refine⟨fun he=>?_,fun he=>⟨b1,a0l b1,fun h5=>?_,fun h5=>⟨b2,a0l b2,s + 1,⟨by omega,?_,hX _ b1.1 b1.2⟩,by omega,rfl,?_⟩⟩⟩
  ·rw[hs2,he]; rfl
  ·rw[hs2,he,z0l]
   have:((evA E (atF R (inA R k) s)).k == 5)=false:=by simpa [evA] using h5
   rw[this]; rfl
  ·rw[hs2,he,z0l]
   have:((evA E (atF R (inA R k) s)).k == 5)=true:=by simpa [evA] using h5
   rw[this,z0g,show E.length + 1 - (s + 1)=E.length - s by omega]
   rfl
  ·rw[a4c (by omega) (by omega)]; push_cast; rfl
 ·rw[hs2]
  by_cases hf:s=E.length + 1
  ·rw[hf,Nat.sub_self]; rfl
  ·rw[show E.length + 1 - s=(E.length - s) + 1 by omega,a44]
   have hneg:decide (atF R (inA R k) s < 0)=true:=by
    simp only[Bool.and_eq_false_iff,z1g] at hcd
    rcases hcd with h | h
    ·omega
    ·simp; omega
   rw[hneg]; rfl
theorem d7r:o6 Tryz.prog 145:=⟨Tryz.f145,Tryz.func145,by kernel_rfl,by kernel_rfl⟩
def d33 (E:List Ev) (R:List Int) (M:List (List Int)) (c i k:Int):Prop:=n7 (({ calls:=[c3l 184 pcE poG (nmG E R M),c3l 95 pcM moG (nmG E R M),c3l 185 pcF frG (nmG E R M),c3l 94 pcE syG (nmG E R M),c3l 186 pcS swG (nmG E R M)] }:Kit)).tab Tryz.f145 [grV E R M,.i .u8 c,.i .i64 i,.i .i64 k] (grM E R M) (l4 (.b (a45 c E R M i k)))
theorem d1q (E:List Ev) (R:List Int) (M:List (List Int)) (c i k:Int):d33 E R M c i k=(((c == (112:Int))=true→E.length=E.length∧R.length=R.length∧M.length=M.length∧nE E∧nI R∧nR M∧(((0:Int)≤i∧i < (↑E.length:Int))∧(0:Int)≤k∧k < (↑E.length:Int))∧poG E R M i k=a45 c E R M i k)∧((c == (112:Int))=false→((c == (114:Int))=true→((0:Int)≤k∧k < (↑R.length:Int))∧k.toNat < R.length∧(b6 (0:Int) R k.toNat == i)=a45 c E R M i k)∧((c == (114:Int))=false→((c == (109:Int))=true→E.length=E.length∧R.length=R.length∧M.length=M.length∧nE E∧nI R∧nR M∧((((0:Int)≤i∧i < (↑E.length:Int))∧(0:Int)≤k∧k < (↑E.length:Int))∧(∀(r:List Int),List.Mem r M→r.length≤(1099511627776:Nat))∧∀(i:Int),(0:Int)≤i→i < (↑E.length:Int)→wrE (evA E i)=true→(0:Int)≤(evA E i).ob∧(evA E i).ob < (↑M.length:Int))∧moG E R M i k=a45 c E R M i k)∧((c == (109:Int))=false→((c == (102:Int))=true→E.length=E.length∧R.length=R.length∧M.length=M.length∧nE E∧nI R∧nR M∧((((0:Int)≤i∧i < (↑E.length:Int))∧(0:Int)≤k∧k < (↑E.length:Int))∧((∀(r:List Int),List.Mem r M→r.length≤(1099511627776:Nat))∧∀(i:Int),(0:Int)≤i→i < (↑E.length:Int)→wrE (evA E i)=true→(0:Int)≤(evA E i).ob∧(evA E i).ob < (↑M.length:Int))∧R.length=E.length∧∀(j:Int),(0:Int)≤j→j < (↑E.length:Int)→rdE (evA E j)=true→inA R j=(-1:Int)∨(0:Int)≤inA R j∧inA R j < (↑E.length :
 Int))∧frG E R M i k=a45 c E R M i k)∧((c == (102:Int))=false→((c == (115:Int))=true→E.length=E.length∧R.length=R.length∧M.length=M.length∧nE E∧nI R∧nR M∧(((0:Int)≤i∧i < (↑E.length:Int))∧(0:Int)≤k∧k < (↑E.length:Int))∧syG E R M i k=a45 c E R M i k)∧((c == (115:Int))=false→E.length=E.length∧R.length=R.length∧M.length=M.length∧nE E∧nI R∧nR M∧((((0:Int)≤i∧i < (↑E.length:Int))∧(0:Int)≤k∧k < (↑E.length:Int))∧(R.length=E.length∧∀(j:Int),(0:Int)≤j→j < (↑E.length:Int)→inA R j < (↑E.length:Int))∧E.length≤(1099511627776:Nat))∧swG E R M i k=a45 c E R M i k)))))):=by kernel_rfl
theorem v145 (E:List Ev) (R:List Int) (M:List (List Int)) (c i k:Int) (h:pcG E R M i k):d33 E R M c i k:=by
 rw[d1q]
 obtain⟨hik,hM,hR,hL,hF⟩:=h
 have hkR:0≤k∧k < R.length:=by have:=hik.2; have:=hR.1; omega
 have n3:=a0l hkR
 simp only[eq_self,true_and,and_true,z0o,imp_self,m5,m6,m9,g7,g9,PLoop.of,p9,AV.len,i5,z0s,j4,j7,j8,l7,l8,l9]
 refine⟨fun h1=>⟨hik,?_⟩,fun h1=>⟨fun h2=>⟨hkR,n3,?_⟩,fun h2=>⟨fun h3=>⟨⟨hik,hM.1,hM.2⟩,?_⟩,fun h3=>⟨fun h4=>⟨⟨hik,⟨hM.1,hM.2⟩,hR.1,hF⟩,?_⟩,fun h4=>⟨fun h5=>⟨hik,?_⟩,fun h5=>⟨⟨hik,⟨hR.1,hR.2⟩,hL⟩,?_⟩⟩⟩⟩⟩⟩
 all_goals (simp only[a45, *,z0g,z0l]; try rfl)
theorem fo83:o6 Tryz.prog 83:=⟨Tryz.f83,Tryz.func83,by kernel_rfl,by kernel_rfl⟩
def q83D (E:List Ev) (R:List Int) (M:List (List Int)) (i:Int):Prop:=n7 (({ calls:=[kE1 84 wrE,kE1 86 rdE] }:Kit)).tab Tryz.f83 [grV E R M,.i .i64 i] (grM E R M) (l4 (.b (a1c E R i)))
theorem d6a (E:List Ev) (R:List Int) (M:List (List Int)) (i:Int):q83D E R M i=(((0:Int)≤i∧i < (↑E.length:Int))∧i.toNat < E.length∧((0:Int)≤i∧i < (↑R.length:Int))∧i.toNat < R.length∧((!rdE (b6 e0 E i.toNat))=true→(b6 (0:Int) R i.toNat == (-2:Int))=a1c E R i)∧((!rdE (b6 e0 E i.toNat))=false→((decide (b6 (0:Int) R i.toNat < (0:Int)) || decide (b6 (0:Int) R i.toNat ≥ (↑E.length:Int)))=true→(b6 (0:Int) R i.toNat == (-1:Int))=a1c E R i)∧((decide (b6 (0:Int) R i.toNat < (0:Int)) || decide (b6 (0:Int) R i.toNat ≥ (↑E.length:Int)))=false→((b6 (0:Int) R i.toNat != i)=true→(0:Int)≤b6 (0:Int) R i.toNat∧b6 (0:Int) R i.toNat < (↑E.length:Int))∧((b6 (0:Int) R i.toNat != i)=true→(b6 (0:Int) R i.toNat).toNat < E.length)∧((b6 (0:Int) R i.toNat != i && wrE (b6 e0 E (b6 (0:Int) R i.toNat).toNat))=true→(0:Int)≤b6 (0:Int) R i.toNat∧b6 (0:Int) R i.toNat < (↑E.length:Int))∧((b6 (0:Int) R i.toNat != i && wrE (b6 e0 E (b6 (0:Int) R i.toNat).toNat))=true→(b6 (0:Int) R i.toNat).toNat < E.length)∧(b6 (0:Int) R i.toNat != i && wrE (b6 e0 E (b6 (0:Int) R i.toNat).toNat) && (b6 e0 E (b6 (0:Int) R i.toNat).toNat).ob == (b6 e0 E i.toNat).ob)=a1c E R i))):=by kernel_rfl
theorem v83 (E:List Ev) (R:List Int) (M:List (List Int)) (i:Int) (h:(0≤i∧i < E.length)∧R.length=E.length):q83D E R M i:=by
 rw[d6a]
 obtain⟨hi,hR⟩:=h
 have hiR:0≤i∧i < R.length:=by omega
 have n1:=a0l hi
 have n2:=a0l hiR
 have hb:((decide (b6 0 R i.toNat < 0) || decide (b6 0 R i.toNat ≥ E.length))=false)→0≤b6 0 R i.toNat∧b6 0 R i.toNat < E.length:=fun h=>by
  simp only[z1n,z1g] at h; omega
 refine⟨hi,n1,hiR,n2,fun h1=>?_,fun h1=>⟨fun h2=>?_,fun h2=>⟨fun _=>hb h2,fun _=>a0l (hb h2),fun _=>hb h2,fun _=>a0l (hb h2),?_⟩⟩⟩
 ·simp only[a1c,evA,h1,z0g]; rfl
 ·simp only[a1c,evA,inA,h1,z0l]
  erw [h2]
  rfl
 ·simp only[a1c,evA,inA,h1,z0l]
  erw [h2]
  rfl
theorem n186 (nm:List (Option AV)):CallOk Tryz.prog [] 186 (n6 EL none nm [PG,.lf .i,.lf .i] (b3w pcS swG)):=x4 Tryz.func186 d83 fun av pre rv h=>by
 unfold b3w at h; split at h <;> cases h
 exact⟨⟨rfl,fun t a e=>by cases e <;> exact z0h _ _⟩,fun hp=>⟨_,v186 _ _ _ _ _ (hp _ (.head _)),rfl,(m4 (n84 _) (m4 (n86 _) t6)),t7⟩⟩
theorem n83 (nm:List (Option AV)):CallOk Tryz.prog [] 83 (n6 EL none nm [PG,.lf .i] d4r):=x4 Tryz.func83 fo83 fun av pre rv h=>by
 unfold d4r at h; split at h <;> cases h
 exact⟨⟨rfl,fun t a e=>by cases e <;> exact z0h _ _⟩,fun hp=>⟨_,v83 _ _ _ _ (hp _ (.head _)),rfl,(m4 (n84 _) (m4 (n86 _) t6)),t7⟩⟩
theorem n145 (nm:List (Option AV)):CallOk Tryz.prog [] 145 (n6 EL none nm [PG,.c,.lf .i,.lf .i] d4b):=x4 Tryz.func145 d7r fun av pre rv h=>by
 unfold d4b at h; split at h <;> cases h
 exact⟨⟨rfl,fun t a e=>by cases e <;> exact z0h _ _⟩,fun hp=>⟨_,v145 _ _ _ _ _ _ (hp _ (.head _)),rfl,(m4 (n184 _) (m4 (n95 _) (m4 (n185 _) (m4 (n94 _) (m4 (n186 _) t6))))),t7⟩⟩
def c9f (s:ByteArray) (E:List Ev) (R:List Int) (M:List (List Int)) (t b:Nat):PLoop:=⟨Nat × Nat,fun p=>{ X:=Nat,inv:=fun c=>c≤s.size∧p.1 < E.length∧p.2 < E.length,slots:=fun c=>[(t,.i .i64 (c:Int)),(b,.b (a4f s (fun q=>a45 q E R M p.1 p.2) c))],mem:=fun _=>[],mu:=fun c=>s.size - c,kill:=[] }⟩
def d4s:SpG:=fun
 | [.ag [.es E,.is R,.rs M],.st s]=>some ([GOk E R M∧E.length≤64∧L40 s.size],a9m E.length (b7 E.length (d6 s E R M)))
 | _=>none
def kUni (nm:List (Option AV)):Nat × (List MBlk→List SV→Option AR):=(107,n6 EL none nm [PG,.st] d4s)
theorem d6y:o6 Tryz.prog 107:=⟨Tryz.f107,Tryz.func107,by kernel_rfl,by kernel_rfl⟩
def d2i (E:List Ev) (R:List Int) (M:List (List Int)) (s:ByteArray):Prop:=n7 (({ calls:=[kBel (nmG E R M)],loops:=[(0,.of (a5a E.length (d6 s E R M) 6 5 6)),(2,a3l E.length (d6 s E R M) 7 5 6),(4,c9f s E R M 9 8)],takes:=[(2,fun _ _=>[.fresh 5 1 67 2])] }:Kit)).tab Tryz.f107 [grV E R M,.v (.string s)] (grM E R M) ((a9m E.length (b7 E.length (d6 s E R M))).post EL)
theorem d0z (E:List Ev) (R:List Int) (M:List (List Int)) (s:ByteArray):d2i E R M s=(∃(x:PUnit),(∃(x:Nat),(x≤E.length∧True)∧((0:Int)=(↑x:Int)∧True)∧((↑E.length:Int)=(↑E.length:Int)∧(0:Nat)=(b9 (d6 s E R M) E.length x).length)∧((0:Nat)=(b9 (d6 s E R M) E.length x).length∧(b9 (d6 s E R M) E.length x).length=(0:Nat)∧(b9 (d6 s E R M) E.length x).length=(0:Nat)∧True)∧True)∧∀(x_1:Nat),x_1≤E.length∧True→(decide ((↑x_1:Int) < (↑E.length:Int))=true→∃(x_2:Nat),(∃(x:Nat),(x≤E.length∧x_2 < E.length)∧((0:Int)=(↑x:Int)∧True)∧((↑E.length:Int)=(↑E.length:Int)∧(b9 (d6 s E R M) E.length x_1).length=(b9 (d6 s E R M) E.length x_2 ++ d7 (d6 s E R M) x_2 x).length)∧((b9 (d6 s E R M) E.length x_1).length=(b9 (d6 s E R M) E.length x_2 ++ d7 (d6 s E R M) x_2 x).length∧(∀(j:Nat),j < (b9 (d6 s E R M) E.length x_2 ++ d7 (d6 s E R M) x_2 x).length→(b6 ((0:Int),(0:Int)) (b9 (d6 s E R M) E.length x_1) j).fst=(b6 ((0:Int),(0:Int)) (b9 (d6 s E R M) E.length x_2 ++ d7 (d6 s E R M) x_2 x) j).fst)∧(∀(j:Nat),j < (b9 (d6 s E R M) E.length x_2 ++ d7 (d6 s E R M) x_2 x).length→(b6 ((0:Int),(0:Int)) (b9 (d6 s E R M) E.length x_1) j).snd=(b6 ((0:Int),(0:Int)) (b9 (d6 s E R M) E.length x_2 ++ d7 (d6 s E R M) x_2 x) j).snd)∧True)∧True)∧∀(x_3:Nat),x_3≤E.length∧x_2 < E.length→(decide ((↑x_3:Int) < (↑E.length:Int))=true→∃(x:Nat × Nat),(∃
 (x_4:Nat),(x_4≤s.size∧x.fst < E.length∧x.snd < E.length)∧((0:Int)=(↑x_4:Int)∧false=a4f s (fun(q:Int)=>a45 q E R M (↑x.fst:Int) (↑x.snd:Int)) x_4∧True)∧True)∧∀(x_4:Nat),x_4≤s.size∧x.fst < E.length∧x.snd < E.length→(decide ((↑x_4:Int) < (↑s.size:Int))=true→(a4f s (fun(q:Int)=>a45 q E R M (↑x.fst:Int) (↑x.snd:Int)) x_4=false→(0:Int)≤(↑x_4:Int)∧(↑x_4:Int) < (↑s.size:Int))∧(a4f s (fun(q:Int)=>a45 q E R M (↑x.fst:Int) (↑x.snd:Int)) x_4=false→E.length=E.length)∧(a4f s (fun(q:Int)=>a45 q E R M (↑x.fst:Int) (↑x.snd:Int)) x_4=false→R.length=R.length)∧(a4f s (fun(q:Int)=>a45 q E R M (↑x.fst:Int) (↑x.snd:Int)) x_4=false→M.length=M.length)∧(a4f s (fun(q:Int)=>a45 q E R M (↑x.fst:Int) (↑x.snd:Int)) x_4=false→nE E)∧(a4f s (fun(q:Int)=>a45 q E R M (↑x.fst:Int) (↑x.snd:Int)) x_4=false→nI R)∧(a4f s (fun(q:Int)=>a45 q E R M (↑x.fst:Int) (↑x.snd:Int)) x_4=false→nR M)∧(a4f s (fun(q:Int)=>a45 q E R M (↑x.fst:Int) (↑x.snd:Int)) x_4=false→(((0:Int)≤(↑x_1:Int)∧(↑x_1:Int) < (↑E.length:Int))∧(0:Int)≤(↑x_3:Int)∧(↑x_3:Int) < (↑E.length:Int))∧((∀(r:List Int),List.Mem r M→r.length≤(1099511627776:Nat))∧∀(i:Int),(0:Int)≤i→i < (↑E.length:Int)→wrE (evA E i)=true→(0:Int)≤(evA E i).ob∧(evA E i).ob < (↑M.length:Int))∧(R.length =
 E.length∧∀(j:Int),(0:Int)≤j→j < (↑E.length:Int)→inA R j < (↑E.length:Int))∧E.length≤(1099511627776:Nat)∧∀(j:Int),(0:Int)≤j→j < (↑E.length:Int)→rdE (evA E j)=true→inA R j=(-1:Int)∨(0:Int)≤inA R j∧inA R j < (↑E.length:Int))∧∃(x_5:Nat),(x_5≤s.size∧x.fst < E.length∧x.snd < E.length)∧((c9f s E R M (9:Nat) (8:Nat)).ann x).mu x_5 < ((c9f s E R M (9:Nat) (8:Nat)).ann x).mu x_4∧((E.length=E.length∧R.length=R.length∧M.length=M.length)∧Value.string s=Value.string s∧True∧True∧True∧(↑x_1:Int)=(↑x_1:Int)∧(↑x_3:Int)=(↑x_3:Int)∧(a4f s (fun(q:Int)=>a45 q E R M (↑x.fst:Int) (↑x.snd:Int)) x_4 || a45 (b9l s (↑x_4:Int)) E R M (↑x_1:Int) (↑x_3:Int))=a4f s (fun(q:Int)=>a45 q E R M (↑x.fst:Int) (↑x.snd:Int)) x_5∧IntKind.i64.wrap ((↑x_4:Int) + (1:Int))=(↑x_5:Int)∧True∧E.length=E.length∧(↑E.length:Int)=(↑E.length:Int)∧((↑E.length:Int)=(↑E.length:Int)∧True)∧(↑x_1:Int)=(↑x_1:Int)∧True∧E.length=E.length∧(↑E.length:Int)=(↑E.length:Int)∧true=true∧(↑x_3:Int)=(↑x_3:Int)∧True∧E.length=E.length∧(↑E.length:Int)=(↑E.length:Int)∧true=true∧True)∧eqA E.length (l5 E)∧eqA R.length (j5 R)∧eqA M.length (j9 M)∧(E.length=E.length∧R.length=R.length∧M.length=M.length)∧((0:Int)=(0:Int)∧True)∧((↑E.length:Int)=(↑E.length:Int)∧(b9
 (d6 s E R M) E.length x_2 ++ d7 (d6 s E R M) x_2 x_3).length=(b9 (d6 s E R M) E.length x_2 ++ d7 (d6 s E R M) x_2 x_3).length)∧eqA (b9 (d6 s E R M) E.length x_2 ++ d7 (d6 s E R M) x_2 x_3).length [Col.int IntKind.i64 fun(j:Nat)=>(b6 ((0:Int),(0:Int)) (b9 (d6 s E R M) E.length x_2 ++ d7 (d6 s E R M) x_2 x_3) j).fst,Col.int IntKind.i64 fun(j:Nat)=>(b6 ((0:Int),(0:Int)) (b9 (d6 s E R M) E.length x_2 ++ d7 (d6 s E R M) x_2 x_3) j).snd]∧True)∧(decide ((↑x_4:Int) < (↑s.size:Int))=false→(a4f s (fun(q:Int)=>a45 q E R M (↑x.fst:Int) (↑x.snd:Int)) x_4=true→(b9 (d6 s E R M) E.length x_2 ++ d7 (d6 s E R M) x_2 x_3).length=(b9 (d6 s E R M) E.length x_2 ++ d7 (d6 s E R M) x_2 x_3).length∧(1:Nat)=(1:Nat)∧((b9 (d6 s E R M) E.length x_2 ++ d7 (d6 s E R M) x_2 x_3).length + (1:Nat)) * (16:Nat)≤(140737488355328:Nat)∧(b9 (d6 s E R M) E.length x_2 ++ d7 (d6 s E R M) x_2 x_3).length + (1:Nat)≤(9223372036854775807:Nat)∧∃(x:Nat),(x≤E.length∧x_2 < E.length)∧((a3l E.length (d6 s E R M) (7:Nat) (5:Nat) (6:Nat)).ann x_2).mu x < ((a3l E.length (d6 s E R M) (7:Nat) (5:Nat) (6:Nat)).ann x_2).mu x_3∧((E.length=E.length∧R.length=R.length∧M.length=M.length)∧Value.string s=Value.string s∧True∧True∧True∧(↑x_1:Int)=(↑x_1:Int)∧IntKind.i64.wrap ((↑x_3:Int) + (1:Int))=(↑x:Int)∧True ∧
 E.length=E.length∧(↑E.length:Int)=(↑E.length:Int)∧((↑E.length:Int)=(↑E.length:Int)∧True)∧(↑x_1:Int)=(↑x_1:Int)∧True∧E.length=E.length∧(↑E.length:Int)=(↑E.length:Int)∧true=true∧True)∧eqA E.length (l5 E)∧eqA R.length (j5 R)∧eqA M.length (j9 M)∧(E.length=E.length∧R.length=R.length∧M.length=M.length)∧((0:Int)=(0:Int)∧True)∧((↑E.length:Int)=(↑E.length:Int)∧(b9 (d6 s E R M) E.length x_2 ++ d7 (d6 s E R M) x_2 x_3).length + (1:Nat)=(b9 (d6 s E R M) E.length x_2 ++ d7 (d6 s E R M) x_2 x).length)∧((b9 (d6 s E R M) E.length x_2 ++ d7 (d6 s E R M) x_2 x_3).length + (1:Nat)=(b9 (d6 s E R M) E.length x_2 ++ d7 (d6 s E R M) x_2 x).length∧(∀(j:Nat),j < (b9 (d6 s E R M) E.length x_2 ++ d7 (d6 s E R M) x_2 x).length→(bif j.blt (b9 (d6 s E R M) E.length x_2 ++ d7 (d6 s E R M) x_2 x_3).length then(b6 ((0:Int),(0:Int)) (b9 (d6 s E R M) E.length x_2 ++ d7 (d6 s E R M) x_2 x_3) j).fst else e8 [(↑x_1:Int)] (j - (b9 (d6 s E R M) E.length x_2 ++ d7 (d6 s E R M) x_2 x_3).length))=(b6 ((0:Int),(0:Int)) (b9 (d6 s E R M) E.length x_2 ++ d7 (d6 s E R M) x_2 x) j).fst)∧(∀(j:Nat),j < (b9 (d6 s E R M) E.length x_2 ++ d7 (d6 s E R M) x_2 x).length→(bif j.blt (b9 (d6 s E R M) E.length x_2 ++ d7 (d6 s E R M) x_2 x_3).length then(b6 ((0:Int),(0:Int)) (b9 (d6 s E R M)
 E.length x_2 ++ d7 (d6 s E R M) x_2 x_3) j).snd else e8 [(↑x_3:Int)] (j - (b9 (d6 s E R M) E.length x_2 ++ d7 (d6 s E R M) x_2 x_3).length))=(b6 ((0:Int),(0:Int)) (b9 (d6 s E R M) E.length x_2 ++ d7 (d6 s E R M) x_2 x) j).snd)∧True)∧True)∧(a4f s (fun(q:Int)=>a45 q E R M (↑x.fst:Int) (↑x.snd:Int)) x_4=false→∃(x:Nat),(x≤E.length∧x_2 < E.length)∧((a3l E.length (d6 s E R M) (7:Nat) (5:Nat) (6:Nat)).ann x_2).mu x < ((a3l E.length (d6 s E R M) (7:Nat) (5:Nat) (6:Nat)).ann x_2).mu x_3∧((E.length=E.length∧R.length=R.length∧M.length=M.length)∧Value.string s=Value.string s∧True∧True∧True∧(↑x_1:Int)=(↑x_1:Int)∧IntKind.i64.wrap ((↑x_3:Int) + (1:Int))=(↑x:Int)∧True∧E.length=E.length∧(↑E.length:Int)=(↑E.length:Int)∧((↑E.length:Int)=(↑E.length:Int)∧True)∧(↑x_1:Int)=(↑x_1:Int)∧True∧E.length=E.length∧(↑E.length:Int)=(↑E.length:Int)∧true=true∧True)∧eqA E.length (l5 E)∧eqA R.length (j5 R)∧eqA M.length (j9 M)∧(E.length=E.length∧R.length=R.length∧M.length=M.length)∧((0:Int)=(0:Int)∧True)∧((↑E.length:Int)=(↑E.length:Int)∧(b9 (d6 s E R M) E.length x_2 ++ d7 (d6 s E R M) x_2 x_3).length=(b9 (d6 s E R M) E.length x_2 ++ d7 (d6 s E R M) x_2 x).length)∧((b9 (d6 s E R M) E.length x_2 ++ d7 (d6 s E R M) x_2 x_3).length=(b9 (d6 s E R M) E.length x_2
 ++ d7 (d6 s E R M) x_2 x).length∧(∀(j:Nat),j < (b9 (d6 s E R M) E.length x_2 ++ d7 (d6 s E R M) x_2 x).length→(b6 ((0:Int),(0:Int)) (b9 (d6 s E R M) E.length x_2 ++ d7 (d6 s E R M) x_2 x_3) j).fst=(b6 ((0:Int),(0:Int)) (b9 (d6 s E R M) E.length x_2 ++ d7 (d6 s E R M) x_2 x) j).fst)∧(∀(j:Nat),j < (b9 (d6 s E R M) E.length x_2 ++ d7 (d6 s E R M) x_2 x).length→(b6 ((0:Int),(0:Int)) (b9 (d6 s E R M) E.length x_2 ++ d7 (d6 s E R M) x_2 x_3) j).snd=(b6 ((0:Int),(0:Int)) (b9 (d6 s E R M) E.length x_2 ++ d7 (d6 s E R M) x_2 x) j).snd)∧True)∧True)))∧(decide ((↑x_3:Int) < (↑E.length:Int))=false→∃(x_4:Nat),(x_4≤E.length∧True)∧((PLoop.of (a5a E.length (d6 s E R M) (6:Nat) (5:Nat) (6:Nat))).ann x).mu x_4 < ((PLoop.of (a5a E.length (d6 s E R M) (6:Nat) (5:Nat) (6:Nat))).ann x).mu x_1∧((E.length=E.length∧R.length=R.length∧M.length=M.length)∧Value.string s=Value.string s∧True∧True∧True∧IntKind.i64.wrap ((↑x_1:Int) + (1:Int))=(↑x_4:Int)∧True∧E.length=E.length∧(↑E.length:Int)=(↑E.length:Int)∧((↑E.length:Int)=(↑E.length:Int)∧True)∧True)∧eqA E.length (l5 E)∧eqA R.length (j5 R)∧eqA M.length (j9 M)∧(E.length=E.length∧R.length=R.length∧M.length=M.length)∧((0:Int)=(0:Int)∧True)∧((↑E.length:Int)=(↑E.length:Int)∧(b9 (d6 s E R M) E.length x_2 ++ d7
 (d6 s E R M) x_2 x_3).length=(b9 (d6 s E R M) E.length x_4).length)∧((b9 (d6 s E R M) E.length x_2 ++ d7 (d6 s E R M) x_2 x_3).length=(b9 (d6 s E R M) E.length x_4).length∧(∀(j:Nat),j < (b9 (d6 s E R M) E.length x_4).length→(b6 ((0:Int),(0:Int)) (b9 (d6 s E R M) E.length x_2 ++ d7 (d6 s E R M) x_2 x_3) j).fst=(b6 ((0:Int),(0:Int)) (b9 (d6 s E R M) E.length x_4) j).fst)∧(∀(j:Nat),j < (b9 (d6 s E R M) E.length x_4).length→(b6 ((0:Int),(0:Int)) (b9 (d6 s E R M) E.length x_2 ++ d7 (d6 s E R M) x_2 x_3) j).snd=(b6 ((0:Int),(0:Int)) (b9 (d6 s E R M) E.length x_4) j).snd)∧True)∧True))∧(decide ((↑x_1:Int) < (↑E.length:Int))=false→(b9 (d6 s E R M) E.length x_1).length=(AV.ps (b7 (↑E.length:Int) (d6 s E R M))).len∧((∀(j:Nat),j < (AV.ps (b7 (↑E.length:Int) (d6 s E R M))).len→(b6 ((0:Int),(0:Int)) (b9 (d6 s E R M) E.length x_1) j).fst=(b6 ((0:Int),(0:Int)) (b7 (↑E.length:Int) (d6 s E R M)) j).fst)∧(∀(j:Nat),j < (AV.ps (b7 (↑E.length:Int) (d6 s E R M))).len→(b6 ((0:Int),(0:Int)) (b9 (d6 s E R M) E.length x_1) j).snd=(b6 ((0:Int),(0:Int)) (b7 (↑E.length:Int) (d6 s E R M)) j).snd)∧True)∧(↑E.length:Int)=(↑E.length:Int)∧(b9 (d6 s E R M) E.length x_1).length=(AV.ps (b7 (↑E.length:Int) (d6 s E R M))).len∧True)):=by kernel_rfl
theorem v107 (E:List Ev) (R:List Int) (M:List (List Int)) (s:ByteArray) (h:GOk E R M∧E.length≤64∧L40 s.size):d2i E R M s:=by
 rw[d0z]
 obtain⟨hG,hN,hS⟩:=h
 have hS':s.size≤1099511627776:=hS
 have hlen:=b5b (d6 s E R M) (n:=E.length) (by omega)
 simp only[eq_self,true_and,and_true,z0o,imp_self,m5,m6,m9,g7,g9,PLoop.of,p9,AV.len,i5,z0s,j4,j7,j8,l7,l8,l9,a5a,a3l,c9f,PLoop.of,m9]
 refine⟨(),⟨0,by simp,rfl,?_⟩,fun a ha=>⟨fun hlt=>⟨a,⟨0,?_⟩,fun b hb=>⟨fun hlb=>?_,fun hlb=>?_⟩⟩,fun hlt=>?_⟩⟩
 ·simp[a26]
 ·have ha2:a < E.length:=by have:=z0e hlt; omega
  simp[a3s,ha2]
 ·have hb2:b < E.length:=by have:=z0e hlb; omega
  have ha2:a < E.length:=hb.2
  refine⟨(a,b),⟨0,⟨by omega,ha2,hb2⟩,rfl,rfl⟩,fun c hc=>⟨fun hlc=>?_,fun hlc=>⟨fun hf=>?_,fun hf=>?_⟩⟩⟩
  ·have hc2:c < s.size:=by have:=z0e hlc; omega
   exact⟨fun _=>⟨by omega,by omega⟩,fun _=>⟨⟨⟨by omega,by omega⟩,⟨by omega,by omega⟩⟩,⟨hG.1.1,hG.1.2⟩,⟨hG.2.1.1,hG.2.1.2⟩,hG.2.2.1,hG.2.2.2⟩,c + 1,⟨by omega,ha2,hb2⟩,by omega,rfl,wrS (n:=s.size) hc2 hS'⟩
  ·have hc2:c=s.size:=by have:=z0m hlc; omega
   rw[hc2] at hf
   replace hf:d6 s E R M a b=true:=hf
   have h1:=hlen a b hb.2 hb.1
   have e:d7 (d6 s E R M) a (b + 1)=d7 (d6 s E R M) a b ++ [((a:Int),(b:Int))]:=by rw[z4,if_pos hf]
   have e2:b9 (d6 s E R M) E.length a ++ d7 (d6 s E R M) a (b + 1)=(b9 (d6 s E R M) E.length a ++ d7 (d6 s E R M) a b) ++ [((a:Int),(b:Int))]:=by rw[e,z1x]
   refine⟨by omega,by omega,b + 1,⟨by omega,hb.2⟩,by omega,wrS (n:=E.length) hb2 (by omega),?_⟩
   rw[e2]
   have e3:(b9 (d6 s E R M) E.length a ++ d7 (d6 s E R M) a b ++ [((a:Int),(b:Int))]).length=(b9 (d6 s E R M) E.length a ++ d7 (d6 s E R M) a b).length + 1:=by rw[z1a (bs:=[((a:Int),(b:Int))])]; rfl
   exact⟨e3.symm,e3.symm,ap1 (·.1) _ _,ap1 (·.2) _ _⟩
  ·have hc2:c=s.size:=by have:=z0m hlc; omega
   rw[hc2] at hf
   replace hf:d6 s E R M a b=false:=hf
   have e:d7 (d6 s E R M) a (b + 1)=d7 (d6 s E R M) a b:=by rw[z4,if_neg (by rw[hf]; simp),z1f]
   refine⟨b + 1,⟨by omega,hb.2⟩,by omega,wrS (n:=E.length) hb2 (by omega),?_⟩
   rw[e]
   simp
 ·have hb2:b=E.length:=by have:=z0m hlb; omega
  have e:b9 (d6 s E R M) E.length (a + 1)=b9 (d6 s E R M) E.length a ++ d7 (d6 s E R M) a b:=by rw[a15,hb2]
  refine⟨a + 1,by omega,by omega,wrS (n:=E.length) hb.2 (by omega),?_⟩
  rw[e]
  simp
 ·have ha2:a=E.length:=by have:=z0m hlt; omega
  subst ha2
  rw[a5r]
  exact⟨rfl,⟨fun _ _=>rfl,fun _ _=>rfl⟩,rfl⟩
theorem n107 (nm:List (Option AV)):CallOk Tryz.prog [] 107 (n6 EL none nm [PG,.st] d4s):=x4 Tryz.func107 d6y fun av pre rv h=>by
 unfold d4s at h; split at h <;> cases h
 exact⟨⟨rfl,fun t a e=>by cases e <;> exact z0h _ _⟩,fun hp=>⟨_,v107 _ _ _ _ (hp _ (.head _)),rfl,(m4 (n145 _) t6),t7⟩⟩
def a61 (E:List Ev) (m:Nat) (i:Int):Bool:=
 q6 (evA E i) && (evA E i).k != 3 && (evA E i).k != 4 && (evA E i).en == -1 && (evA E i).ix == c0u E i (evA E i).ag && !((rdE (evA E i) || wrE (evA E i)) && decide ((evA E i).ob ≥ m))
def t4 (f:Int→Bool):Nat→Bool
 | 0=>true
 | j + 1=>t4 f j && f j
theorem a27 {f:Int→Bool}:∀ {n:Nat},t4 f n=true↔∀ i:Nat,i < n→f i=true:=by
 intro n
 induction n with
 | zero=>simp[t4]
 | succ n ih =>
  simp only[t4,z0d,ih]
  constructor
  ·rintro ⟨h1,h2⟩ i hi
   by_cases e:i=n
   ·rw[e]; exact h2
   ·exact h1 i (by omega)
  ·intro h
   exact⟨fun i hi=>h i (by omega),h n (by omega)⟩
theorem a35 {f:Int→Bool} {n j:Nat} (hj:j < n) (h:f j=false):t4 f n=false:=by
 cases e:t4 f n
 ·rfl
 ·rw[a27.1 e j hj] at h; cases h
def a6n (E:List Ev) (m:Nat):Bool:=t4 (a61 E m) E.length
def d4m:SpG:=fun
 | [.ag [.es E,.is R,.rs M]]=>some ([L40 E.length],.rv (.pl (.b (a6n E M.length))))
 | _=>none
def lAl (f:Int→Bool) (n t:Nat):LAnn:=p9 n t (fun j=>t4 f j=true) (fun _=>[]) []
def kLsd (nm:List (Option AV)):Nat × (List MBlk→List SV→Option AR):=(82,n6 EL none nm [PG] d4m)
theorem fo82:o6 Tryz.prog 82:=⟨Tryz.f82,Tryz.func82,by kernel_rfl,by kernel_rfl⟩
def q82D (E:List Ev) (R:List Int) (M:List (List Int)):Prop:=n7 (({ calls:=[kE1 85 q6,kE1 86 rdE,kE1 84 wrE,kNum [some (.es E)]],loops:=[(0,.of (lAl (a61 E M.length) E.length 3))] }:Kit)).tab Tryz.f82 [grV E R M] (grM E R M) (l4 (.b (a6n E M.length)))
theorem d69 (E:List Ev) (R:List Int) (M:List (List Int)):q82D E R M=(∃(x:PUnit),(∃(x:Nat),(x≤E.length∧t4 (a61 E M.length) x=true)∧((0:Int)=(↑x:Int)∧True)∧True)∧∀(x_1:Nat),x_1≤E.length∧t4 (a61 E M.length) x_1=true→(decide ((↑x_1:Int) < (↑E.length:Int))=true→((0:Int)≤(↑x_1:Int)∧(↑x_1:Int) < (↑E.length:Int))∧x_1 < E.length∧((!q6 (b6 e0 E x_1) || (b6 e0 E x_1).k == (3:Int) || (b6 e0 E x_1).k == (4:Int) || (b6 e0 E x_1).en != (-1:Int))=false→E.length=E.length)∧((!q6 (b6 e0 E x_1) || (b6 e0 E x_1).k == (3:Int) || (b6 e0 E x_1).k == (4:Int) || (b6 e0 E x_1).en != (-1:Int))=false→nE E)∧((!q6 (b6 e0 E x_1) || (b6 e0 E x_1).k == (3:Int) || (b6 e0 E x_1).k == (4:Int) || (b6 e0 E x_1).en != (-1:Int))=false→((0:Int)≤(↑x_1:Int)∧(↑x_1:Int)≤(↑E.length:Int))∧E.length≤(1099511627776:Nat))∧((!q6 (b6 e0 E x_1) || (b6 e0 E x_1).k == (3:Int) || (b6 e0 E x_1).k == (4:Int) || (b6 e0 E x_1).en != (-1:Int) || (b6 e0 E x_1).ix != c0u E (↑x_1:Int) (b6 e0 E x_1).ag)=true→false=a6n E M.length)∧((!q6 (b6 e0 E x_1) || (b6 e0 E x_1).k == (3:Int) || (b6 e0 E x_1).k == (4:Int) || (b6 e0 E x_1).en != (-1:Int) || (b6 e0 E x_1).ix != c0u E (↑x_1:Int) (b6 e0 E x_1).ag)=false→(((rdE (b6 e0 E x_1) || wrE (b6 e0 E x_1)) && decide ((b6 e0 E x_1).ob ≥ (↑M.length:Int)))=true→false=a6n E M.length)∧(((rdE (b6 e0 E x_1) || wrE (b6 e0 E x_1)) &&
 decide ((b6 e0 E x_1).ob ≥ (↑M.length:Int)))=false→∃(x_2:Nat),(x_2≤E.length∧t4 (a61 E M.length) x_2=true)∧((PLoop.of (lAl (a61 E M.length) E.length (3:Nat))).ann x).mu x_2 < ((PLoop.of (lAl (a61 E M.length) E.length (3:Nat))).ann x).mu x_1∧((E.length=E.length∧R.length=R.length∧M.length=M.length)∧True∧IntKind.i64.wrap ((↑x_1:Int) + (1:Int))=(↑x_2:Int)∧True)∧eqA E.length (l5 E)∧eqA R.length (j5 R)∧eqA M.length (j9 M)∧(E.length=E.length∧R.length=R.length∧M.length=M.length)∧True)))∧(decide ((↑x_1:Int) < (↑E.length:Int))=false→true=a6n E M.length)):=by kernel_rfl
theorem v82 (E:List Ev) (R:List Int) (M:List (List Int)) (h:L40 E.length):q82D E R M:=by
 rw[d69]
 have hL:E.length≤1099511627776:=h
 simp only[eq_self,true_and,and_true,z0o,imp_self,m5,m6,m9,g7,g9,PLoop.of,p9,AV.len,i5,z0s,j4,j7,j8,l7,l8,l9,lAl]
 refine⟨(),⟨0,⟨by omega,rfl⟩,rfl⟩,fun j hj=>⟨fun hlt=>?_,fun hlt=>?_⟩⟩
 ·have h1:j < E.length:=by have:=z0e hlt; omega
  have e:a61 E M.length j=(q6 (b6 e0 E j) && (b6 e0 E j).k != 3 && (b6 e0 E j).k != 4 && (b6 e0 E j).en == -1 && (b6 e0 E j).ix == c0u E j (b6 e0 E j).ag && !((rdE (b6 e0 E j) || wrE (b6 e0 E j)) && decide ((b6 e0 E j).ob ≥ M.length))):=rfl
  refine⟨⟨by omega,by omega⟩,h1,fun _=>⟨⟨by omega,by omega⟩,hL⟩,fun h2=>?_,fun h2=>⟨fun h3=>?_,fun h3=>⟨j + 1,⟨by omega,?_⟩,by omega,wrS (n:=E.length) h1 hL⟩⟩⟩
  ·refine(a35 h1 ?_).symm
   rw[e]; grind
  ·refine(a35 h1 ?_).symm
   rw[e,h3]; simp
  ·simp only[t4,hj.2,z1o]
   rw[e,h3]; grind
 ·have h1:j=E.length:=by have:=z0m hlt; omega
  have:=hj.2
  rw[h1] at this
  exact this.symm
theorem n82 (nm:List (Option AV)):CallOk Tryz.prog [] 82 (n6 EL none nm [PG] d4m):=x4 Tryz.func82 fo82 fun av pre rv h=>by
 unfold d4m at h; split at h <;> cases h
 exact⟨⟨rfl,fun t a e=>by cases e <;> exact z0h _ _⟩,fun hp=>⟨_,v82 _ _ _ (hp _ (.head _)),rfl,(m4 (n85 _) (m4 (n86 _) (m4 (n84 _) (m4 (n124 _) t6)))),t7⟩⟩
end Go.Proofs.YtaeeaniofljmnaaGreatDoor

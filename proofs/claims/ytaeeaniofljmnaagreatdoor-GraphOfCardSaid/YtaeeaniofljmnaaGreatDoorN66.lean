/-
  A part of the proof (N66).
-/
import Derived.Test.YtaeeaniofljmnaaGreatDoorN65
import Derived.Test.YtaeeaniofljmnaaGreatDoorN55a
import Derived.Test.YtaeeaniofljmnaaGreatDoorNOf
namespace Go.Proofs.YtaeeaniofljmnaaGreatDoor
set_option linter.unusedSimpArgs false
set_option linter.unusedVariables false
open Go Go.Proofs.YtaeeaniofljmnaaGreatDoor.Sx
set_option maxRecDepth 100000
def oE (E:List Ev):List Ev:=i5 (ofK E) E
def oR (E:List Ev):List Int:=i5 (ofK E) (ofR E)
def oM (E:List Ev):List (List Int):=i5 (ofK E) (ofM E)
def nm6 (E:List Ev):List (Option AV):=[none,some (.es E),some (.es (oE E)),some (.is (oR E)),some (.rs (oM E)),none,some (.es (oE E)),some (.is (oR E)),some (.rs (oM E)),none]
def grE (E:List Ev):List MBlk:=[tbl,.arr E.length (g9 E)]
def eE (y0:Option Addr × Nat):Nat→Option (Option Addr × Nat):=fun i=>[(some ⟨0,0,none⟩,17),y0][i]?
theorem d6f {y0:Option Addr × Nat} (E:List Ev):∀ i,eE y0 i≠none→i < (grE E).length:=fun i hi=>by
 match i,hi with
 | 0,_ | 1,_=>simp[grE]
 | i + 2,hi=>exact absurd (by simp[eE]) hi
theorem d6e {W:World} {y0:Option Addr × Nat} {E:List Ev} (b0:BR (b68 W (eE y0)) W 0 tbl) (b1:BR (b68 W (eE y0)) W 1 (.arr E.length (g9 E))):∀ i k,(grE E)[i]?=some k→eE y0 i≠none→BR (b68 W (eE y0)) W i k:=fun i k hk _=>by
 match i,hk with
 | 0,hk=>simp only[grE,z3c,z0a] at hk; subst hk; exact b0
 | 1,hk=>simp only[grE,z1t,z3c,z0a] at hk; subst hk; exact b1
 | i + 2,hk=>simp[grE] at hk
theorem c35 (a:Int):j9 a a=0:=c21 (by omega) (by omega)
theorem b52 (l:List Int):u6 j9 l l=0:=by
 rw[a5c (d:=0) fun q _ _=>c35 _]
 simp
theorem c38 (e:Ev):d3f e e=true:=by simp[d3f]
theorem c8f (l:List Ev):smE l l=true:=by
 have:p7 (b2r l l) l.length=true:=a2o.2 fun i _=>c38 _
 simp[smE,this]
theorem c5s (E:List Ev) (R:List Int) (M:List (List Int)):eqG E R M E R M=true:=by
 have:p7 (b2s M M) M.length=true:=a2o.2 fun i _=>by simp[b2s,b52]
 simp[eqG,c8f,b52,this]
theorem o_sz {E:List Ev}:((i5 (ofK E) E).length≤1099511627776∧(i5 (ofK E) (ofR E)).length≤1099511627776∧(i5 (ofK E) (ofM E)).length≤1099511627776)∧∀ r:List Int,List.Mem r (i5 (ofK E) (ofM E))→r.length≤1099511627776:=by
 cases hk:ofK E
 ·simp only[i5,z0m]
  exact⟨⟨by simp,by simp,by simp⟩,fun r h=>nomatch h⟩
 ·have h:E.length≤64∧d6 E (ofR E) (ofM E)=true:=by simpa [ofK] using hk
  have h1:=c6v h.1
  obtain⟨hM,hR⟩:=a2a h.2
  simp only[i5,z0f]
  exact⟨⟨by omega,by omega,by omega⟩,fun r hr=>h1.2 hM r hr⟩
def q6D (E:List Ev):Prop:=n9 (({ g:=true,calls:=[kOf1 (nm6 E),kOf2 (nm6 E),kAwk (nm6 E),kEqu (nm6 E)] }:Kit)).tab Tryz.f6 [.sl 1 E.length] (grE E) (l8 .tt)
theorem d7x (E:List Ev):q6D E=(
 let a:=i5 (ofK E) (ofM E)
 let b:=i5 (ofK E) (ofR E)
 let c:=(1099511627776:Nat)
 let d:=i5 (ofK E) E
 let e:=true=true→mkN (b8 (0:Int) b) b.length=oR E
 let f:=true=true→d.length=d.length
 let g:=true=true→b.length=b.length
 let h:=true=true→a.length=a.length
 let k:=(↑E.length:Int) > (80:Int)
 (decide k=true→some tbl=some tbl∧true=true)∧(decide k=false→some tbl=some tbl∧E.length=E.length∧nE E∧E.length≤c∧some (l9 [] tbl)=some tbl∧E.length=E.length∧nE E∧E.length≤c∧some (l9 [] (l9 [] tbl))=some tbl∧f∧g∧h∧(true=true→mkN (fun(j:Nat)=>b8 e0 d j) d.length=oE E)∧e∧(true=true→mkN (fun(j:Nat)=>mkN (fun(i:Nat)=>b8 (0:Int) (b8 [] a j) i) (b8 [] a j).length) a.length=oM E)∧f∧g∧h∧(true=true→mkN (fun(j:Nat)=>b8 e0 d j) d.length=oE E)∧e∧(true=true→mkN (fun(j:Nat)=>mkN (fun(i:Nat)=>b8 (0:Int) (b8 [] a j) i) (b8 [] a j).length) a.length=oM E)∧(true=true→((oE E).length≤c∧(oR E).length≤c∧(oM E).length≤c)∧∀(r:List Int),List.Mem r (oM E)→r.length≤c)∧(true && eqG (oE E) (oR E) (oM E) (oE E) (oR E) (oM E) && a63 E ==a63 E)=true)):=by kernel_rfl
theorem v6 (E:List Ev) :q6D E:=by
 rw[d7x]
 simp only[eq_self,true_and,and_true,z0p,imp_self,m5,n5,o0,g8,i9,PLoop.of,s5,AV.len,j5,z0v,j8,l5,l6,m6,m7,m8,oE,oR,oM]
 intro hc
 have h8:=z0l hc
 rw[c5s]
 exact⟨by omega,by omega,o_sz,by simp⟩
end Go.Proofs.YtaeeaniofljmnaaGreatDoor

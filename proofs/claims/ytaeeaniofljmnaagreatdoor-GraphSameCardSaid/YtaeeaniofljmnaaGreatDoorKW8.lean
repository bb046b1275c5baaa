/-
 For any two graphs the law GraphSame (modelchecklaw39) returns true,and the input b5b behind the call as it did before: both writings answer alike whether the graphs are equal up to order,and compare them alike; a graph is the same as itself where it is valid.
 Conditions: the package-level variable event.rows starts as the text of the program lays it (the card ties it). No other.
-/
import Derived.Test.YtaeeaniofljmnaaGreatDoorK57
import Derived.Test.YtaeeaniofljmnaaGreatDoorK64
namespace Go.Proofs.YtaeeaniofljmnaaGreatDoor
set_option linter.unusedSimpArgs false
set_option linter.unusedVariables false
open Go Go.Proofs.YtaeeaniofljmnaaGreatDoor.Sx Go.ChangeShapes Go.WideShapes Go.ChangeAt Go.RowKit
set_option maxRecDepth 100000
namespace GraphSame
theorem a1e (H:Type) (enc:TypeId × Value→H) (W:World) (base:Nat) (args:Array Value) (ds gs:List (DataW H)) (before:List MemPlace)
  (hval:∀(j:Nat) t v,Tryz.f8.params[j]?=some t→args[j]?=some v→Value.okWide Tryz.prog W .any base t v)
  (hW:DataW.Whole enc Tryz.prog Tryz.f8.params.toList Rows.graphSameSpec.vars false W args.toList ds gs before)
  (hw:(DataW.weightsEach Tryz.prog (Tryz.f8.params.toList ++ (OpenSpec.ofChange Rows.graphSameSpec).bare.plain.varTypes Tryz.prog) (ds ++ gs)).all (·≤reachBytes)=true) (hL:laidMetH Tryz.prog Rows.graphSameRow.laid W) :
  Calls Tryz.prog 8 args W fun e W'=>∃ v,e=.returned v∧Rows.graphSameSpec.post enc Tryz.prog Tryz.f8 false true false false W args v W':=by
 have hW':=hW
 obtain⟨p,q,hA,hV,hb,hfz,hnd⟩:=hW
 rw[Tryz.params8] at hA hval hw
 obtain⟨v0,vs0,d0,ds0,p0,q0,hargs,rfl,rfl,h0,r0⟩:=trodAll_cons hA
 obtain⟨v1,vs1,d1,ds1,p1,q1,rfl,rfl,rfl,h1,r1⟩:=trodAll_cons r0
 obtain⟨rfl,rfl,rfl⟩:=trodAll_nil r1
 obtain rfl:args = #[v0,v1]:=by cases args; simp_all
 obtain⟨rfl,rfl⟩:=trodVars_none hV
 obtain⟨E,R,M,y1,y2,y3,hs0,z0⟩:=b53 1 (hval 0 _ _ rfl rfl) h0 fun n hn=>z0e (z2c.1 hw n (DataW.weights_mem_each (j:=0) rfl rfl n hn))
 obtain⟨E',R',M',y4,y5,y6,hs1,z1⟩:=b53 4 (hval 1 _ _ rfl rfl) h1 fun n hn=>z0e (z2c.1 hw n (DataW.weights_mem_each (j:=1) rfl rfl n hn))
 obtain⟨⟨b1,b2,b3⟩,g0⟩:=z0 (eG2 y1 y2 y3 y4 y5 y6) rfl rfl rfl
 obtain⟨⟨b4,b5,b6⟩,g1⟩:=z1 (eG2 y1 y2 y3 y4 y5 y6) rfl rfl rfl
 refine(d29 (K:=({ g:=true,calls:=[kFew (a8r E R M E' R' M'),kAwk (a8r E R M E' R' M'),kSm1 (a8r E R M E' R' M'),kSm2 (a8r E R M E' R' M'),c8g (a8r E R M E' R' M'),d5b (a8r E R M E' R' M'),b8g (a8r E R M E' R' M')] }:Kit)) (Kit.ok (o5 (a1n (n9 _)) (o5 (n10 _) (o5 (n40 _) (o5 (a1n (n41 _)) (o5 (n42 _) (o5 (a1n (n43 _)) (o5 (a1n (n34 _)) v4))))))) v5) rfl Tryz.func8 rfl (d6n E R M E' R' M') rfl (d6m (d28 rfl hL) b1 b2 b3 b4 b5 b6) (DenL.cons g0 (DenL.cons g1 (DenL.nil _))) (v8 E R M E' R' M' hs0 hs1)).mono fun e W' ⟨he,hbl⟩=>⟨_,he,?_⟩
 exact c9c c8k (by kernel_rfl) (tb:=4) (by kernel_rfl) (by kernel_rfl) rfl rfl hW' hbl
theorem b5b (os:Os) {H:Type} (enc:TypeId × Value→H):∃ places,DataW.whole enc Tryz.prog ((b1g os).forCall (fun _ _=>0) ⟨#[],#[.agg #[.slice none 0 0,.slice none 0 0,.slice none 0 0],.agg #[.slice none 0 0,.slice none 0 0,.slice none 0 0]],[]⟩).memory Tryz.f8.params.toList Rows.graphSameSpec.vars false (#[.agg #[.slice none 0 0,.slice none 0 0,.slice none 0 0],.agg #[.slice none 0 0,.slice none 0 0,.slice none 0 0]]:Array Value).toList 8=some ([.agg [.nil,.nil,.nil],.agg [.nil,.nil,.nil]],[],places):=
 ⟨[],by kernel_rfl⟩
theorem d6s (os:Os) (started:os.Started) (H:Type) (enc:TypeId × Value→H) (F:Stop.Interp) :
  ReturnsInHanded {} Tryz.checked os 8 .any ((OpenSpec.ofChange Rows.graphSameSpec).preRow enc Tryz.prog Tryz.f8 Rows.graphSameRow.domain false Rows.graphSameRow.laid) (((OpenSpec.ofChange Rows.graphSameSpec).at F).post enc Tryz.prog Tryz.f8 false true false false):=by
 obtain⟨places,hx⟩:=b5b os enc
 refine returnsInHanded_of_row (C:=Tryz.checked) (s:=OpenSpec.ofChange Rows.graphSameSpec) d2i started (by kernel_rfl) Tryz.func8
  (witness_row_at (enc:=enc) (C:=Tryz.checked) false (b1g os) #[.agg #[.slice none 0 0,.slice none 0 0,.slice none 0 0],.agg #[.slice none 0 0,.slice none 0 0,.slice none 0 0]] rfl (by kernel_rfl) (by kernel_rfl) (by kernel_rfl)
   (OpenSpec.preRow_of_cond 8 hx (by kernel_rfl) (fun k hk=>by cases hk) (by kernel_rfl) (c8l os _))) ?_
 intro W base args ds gs before hval hW _ _ hw hL _ _
 exact a1e H enc W base args ds gs before hval hW hw hL
theorem d0p:Rows.GraphSameSaid:=
 OpenClaim.holds_of_cond 8 Tryz.f8 rfl rfl rfl rfl rfl rfl rfl ⟨rfl,rfl,rfl,rfl,rfl⟩ rfl rfl rfl rfl rfl (by kernel_rfl) Tryz.func8 (by kernel_rfl)
  (z0e (by kernel_rfl)) (by unfold Func.isWrapper; first | (rw[if_pos (by decide +kernel)]; kernel_rfl) | (rw[if_neg (by decide +kernel)]; exact⟨rfl,rfl⟩))
  (fun os started H enc _ F=>by rw[OpenClaim.pre_eq_preRow]; exact d6s os started H enc F)
theorem plain (f:FuncId) (fn:Func) (hf:Tryz.pinned.checked.prog.funcNamed "modelcheck/modelchecklaw39.GraphSame"=some f) (hfn:Tryz.pinned.checked.prog.funcs[f]?=some fn) :
  false=Tryz.pinned.checked.prog.looks []∧∀(j:Nat) t,fn.params[j]?=some t→Tryz.pinned.checked.prog.wantsStandIn t=false:=by
 obtain rfl:f=8:=Option.some.inj ((show Tryz.prog.funcNamed "modelcheck/modelchecklaw39.GraphSame"=some 8 by kernel_rfl).symm.trans hf) |>.symm
 obtain rfl:fn=Tryz.f8:=(Option.some.inj (Tryz.func8.symm.trans hfn)).symm
 refine⟨by kernel_rfl,fun j t ht=>?_⟩
 have key:(Tryz.f8.params.toList.all fun t=>!(Tryz.prog.wantsStandIn t))=true:=by kernel_rfl
 have h1:Tryz.prog.wantsStandIn t=false:=by simpa using z2c.1 key t (by simpa using Array.mem_of_getElem? ht)
 exact h1
theorem card:Rows.GraphSameCardSaid:=
 Claim7.holds_tied_plain_at .later [] _ _ _ _ d0p (fun _ h=>by cases h) (by kernel_rfl) (fun _ h=>by cases h) graphSame_row_tie rfl ⟨rfl,rfl⟩ (by kernel_rfl) rfl plain (by kernel_rfl)
end GraphSame
end Go.Proofs.YtaeeaniofljmnaaGreatDoor

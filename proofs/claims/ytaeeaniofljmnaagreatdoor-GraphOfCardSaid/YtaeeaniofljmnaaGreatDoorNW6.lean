/-
 For every list of events the law GraphOf (modelchecklaw39) returns true,and the input b3n behind the call as it did before: both writings make the same graph of the events,with the same error.
 Conditions: the package-level variable event.rows starts as the text of the program lays it (the card ties it). No other.
-/
import Derived.Test.YtaeeaniofljmnaaGreatDoorN55a
import Derived.Test.YtaeeaniofljmnaaGreatDoorN66
namespace Go.Proofs.YtaeeaniofljmnaaGreatDoor
set_option linter.unusedSimpArgs false
set_option linter.unusedVariables false
open Go Go.Proofs.YtaeeaniofljmnaaGreatDoor.Sx Go.ChangeShapes Go.WideShapes Go.ChangeAt Go.RowKit
set_option maxRecDepth 100000
namespace GraphOf
theorem a1s (H:Type) (enc:TypeId × Value→H) (W:World) (base:Nat) (args:Array Value) (ds gs:List (DataW H)) (before:List MemPlace)
  (hval:∀(j:Nat) t v,Tryz.f6.params[j]?=some t→args[j]?=some v→Value.okWide Tryz.prog W .any base t v)
  (hW:DataW.Whole enc Tryz.prog Tryz.f6.params.toList Rows.graphOfSpec.vars false W args.toList ds gs before)
  (hw:(DataW.weightsEach Tryz.prog (Tryz.f6.params.toList ++ (OpenSpec.ofChange Rows.graphOfSpec).bare.plain.varTypes Tryz.prog) (ds ++ gs)).all (·≤reachBytes)=true) (hL:laidMetH Tryz.prog Rows.graphOfRow.laid W) :
  Calls Tryz.prog 6 args W fun e W'=>∃ v,e=.returned v∧Rows.graphOfSpec.post enc Tryz.prog Tryz.f6 false true false false W args v W':=by
 have hW':=hW
 obtain⟨p,q,hA,hV,hb,hfz,hnd⟩:=hW
 rw[Tryz.params6] at hA hval hw
 obtain⟨v0,vs0,d0,ds0,p0,q0,hargs,rfl,rfl,h0,r0⟩:=trodAll_cons hA
 obtain⟨rfl,rfl,rfl⟩:=trodAll_nil r0
 obtain rfl:args = #[v0]:=by cases args; simp_all
 obtain⟨rfl,rfl⟩:=trodVars_none hV
 obtain⟨fuel0,hf0⟩:=h0
 obtain⟨A0,l0,c0,rfl⟩:=okWide_slice (show Tryz.prog.underlying 22=some (.slice 85) by kernel_rfl) (hval 0 _ _ rfl rfl)
 obtain⟨E,y1,hs0,z0⟩:=c6x (by simpa [Value.cells] using hf0) fun n hn=>z0e (z2k.1 hw n (DataW.weights_mem_each (j:=0) rfl rfl n hn))
 obtain⟨b1,g0⟩:=z0 (eE y1) 1 rfl
 refine(c9p (K:=({ g:=true,calls:=[kOf1 (nm6 E),kOf2 (nm6 E),kAwk (nm6 E),kEqu (nm6 E)] }:Kit)) (Kit.ok (m9 (n35 _) (m9 (n36 _) (m9 (n10 _) (m9 (a0y (n24 _)) v4)))) v5) rfl Tryz.func6 rfl (d6f E) rfl (d6e (c9o rfl hL) b1) (DenL.cons g0 (DenL.nil _)) (v6 E)).mono fun e W' ⟨he,hbl⟩=>⟨_,he,?_⟩
 exact c74 c67 (by kernel_rfl) (tb:=4) (by kernel_rfl) (by kernel_rfl) rfl rfl hW' hbl
theorem b3n (os:Os) {H:Type} (enc:TypeId × Value→H):∃ places,DataW.whole enc Tryz.prog ((b00 os).forCall (fun _ _=>0) ⟨#[],#[.slice none 0 0],[]⟩).memory Tryz.f6.params.toList Rows.graphOfSpec.vars false (#[.slice none 0 0]:Array Value).toList 8=some ([.nil],[],places):=
 ⟨[],by kernel_rfl⟩
theorem d3k (os:Os) (started:os.Started) (H:Type) (enc:TypeId × Value→H) (F:Stop.Interp) :
  ReturnsInHanded {} Tryz.checked os 6 .any ((OpenSpec.ofChange Rows.graphOfSpec).preRow enc Tryz.prog Tryz.f6 Rows.graphOfRow.domain false Rows.graphOfRow.laid) (((OpenSpec.ofChange Rows.graphOfSpec).at F).post enc Tryz.prog Tryz.f6 false true false false):=by
 obtain⟨places,hx⟩:=b3n os enc
 refine returnsInHanded_of_row (C:=Tryz.checked) (s:=OpenSpec.ofChange Rows.graphOfSpec) c9x started (by kernel_rfl) Tryz.func6
  (witness_row_at (enc:=enc) (C:=Tryz.checked) false (b00 os) #[.slice none 0 0] rfl (by kernel_rfl) (by kernel_rfl) (by kernel_rfl)
   (OpenSpec.preRow_of_cond 8 hx (by kernel_rfl) (fun k hk=>by cases hk) (by kernel_rfl) (c68 os _))) ?_
 intro W base args ds gs before hval hW _ _ hw hL _ _
 exact a1s H enc W base args ds gs before hval hW hw hL
theorem c88:Rows.GraphOfSaid:=
 OpenClaim.holds_of_cond 6 Tryz.f6 rfl rfl rfl rfl rfl rfl rfl ⟨rfl,rfl,rfl,rfl,rfl⟩ rfl rfl rfl rfl rfl (by kernel_rfl) Tryz.func6 (by kernel_rfl)
  (z0e (by kernel_rfl)) (by unfold Func.isWrapper; first | (rw[if_pos (by decide +kernel)]; kernel_rfl) | (rw[if_neg (by decide +kernel)]; exact⟨rfl,rfl⟩))
  (fun os started H enc _ F=>by rw[OpenClaim.pre_eq_preRow]; exact d3k os started H enc F)
theorem plain (f:FuncId) (fn:Func) (hf:Tryz.pinned.checked.prog.funcNamed "modelcheck/modelchecklaw39.GraphOf"=some f) (hfn:Tryz.pinned.checked.prog.funcs[f]?=some fn) :
  false=Tryz.pinned.checked.prog.looks []∧∀(j:Nat) t,fn.params[j]?=some t→Tryz.pinned.checked.prog.wantsStandIn t=false:=by
 obtain rfl:f=6:=Option.some.inj ((show Tryz.prog.funcNamed "modelcheck/modelchecklaw39.GraphOf"=some 6 by kernel_rfl).symm.trans hf) |>.symm
 obtain rfl:fn=Tryz.f6:=(Option.some.inj (Tryz.func6.symm.trans hfn)).symm
 refine⟨by kernel_rfl,fun j t ht=>?_⟩
 have key:(Tryz.f6.params.toList.all fun t=>!(Tryz.prog.wantsStandIn t))=true:=by kernel_rfl
 have h1:Tryz.prog.wantsStandIn t=false:=by simpa using z2k.1 key t (by simpa using Array.mem_of_getElem? ht)
 exact h1
theorem card:Rows.GraphOfCardSaid:=
 Claim7.holds_tied_plain_at .later [] _ _ _ _ c88 (fun _ h=>by cases h) (by kernel_rfl) (fun _ h=>by cases h) graphOf_row_tie rfl ⟨rfl,rfl⟩ (by kernel_rfl) rfl plain (by kernel_rfl)
end GraphOf
end Go.Proofs.YtaeeaniofljmnaaGreatDoor

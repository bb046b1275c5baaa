/-
 For every graph the law GraphOrders (modelchecklaw39) returns true,and the input b19 behind the call as it did before: both writings call the same graphs valid,and return the same relations: program order,b19 from,modification order,synchronization points.
 Conditions: the package-level variable event.rows starts as the text of the program lays it (the card ties it). No other.
-/
import Derived.Test.YtaeeaniofljmnaaGreatDoorHLaw
import Derived.Test.YtaeeaniofljmnaaGreatDoorH52
namespace Go.Proofs.YtaeeaniofljmnaaGreatDoor
set_option linter.unusedSimpArgs false
set_option linter.unusedVariables false
open Go Go.Proofs.YtaeeaniofljmnaaGreatDoor.Sx Go.ChangeShapes Go.WideShapes Go.ChangeAt Go.RowKit
set_option maxRecDepth 100000
namespace GraphOrders
theorem a1y (H:Type) (enc:TypeId × Value→H) (W:World) (base:Nat) (args:Array Value) (ds gs:List (DataW H)) (before:List MemPlace)
  (hval:∀(j:Nat) t v,Tryz.f5.params[j]?=some t→args[j]?=some v→Value.okWide Tryz.prog W .any base t v)
  (hW:DataW.Whole enc Tryz.prog Tryz.f5.params.toList Rows.graphOrdersSpec.vars false W args.toList ds gs before)
  (hw:(DataW.weightsEach Tryz.prog (Tryz.f5.params.toList ++ (OpenSpec.ofChange Rows.graphOrdersSpec).bare.plain.varTypes Tryz.prog) (ds ++ gs)).all (·≤reachBytes)=true) (hL:laidMetH Tryz.prog Rows.graphOrdersRow.laid W) :
  Calls Tryz.prog 5 args W fun e W'=>∃ v,e=.returned v∧Rows.graphOrdersSpec.post enc Tryz.prog Tryz.f5 false true false false W args v W':=by
 have hW':=hW
 obtain⟨p,q,hA,hV,hb,hfz,hnd⟩:=hW
 rw[Tryz.params5] at hA hval hw
 obtain⟨v0,vs0,d0,ds0,p0,q0,hargs,rfl,rfl,h0,r0⟩:=trodAll_cons hA
 obtain⟨rfl,rfl,rfl⟩:=trodAll_nil r0
 obtain rfl:args = #[v0]:=by cases args; simp_all
 obtain⟨rfl,rfl⟩:=trodVars_none hV
 obtain⟨E,R,M,y0,y1,y2,hs,z⟩:=c0x (hval 0 _ _ rfl rfl) h0 fun n hn=>z0e (z2l.1 hw n (DataW.weights_mem_each (j:=0) rfl rfl n hn))
 obtain⟨⟨b1,b2,b3⟩,hd⟩:=z (eG y0 y1 y2) rfl rfl rfl
 refine(c9h (K:=({ g:=true,calls:=[d3r (nm5 E R M),d3p (nm5 E R M),a63 25 (w9 poG) (nm5 E R M),kRl 26 (w9 (d6 ⟨#[112]⟩)) (nm5 E R M),a63 27 (w9 rfG) (nm5 E R M),kRl 28 (w9 (d6 ⟨#[114]⟩)) (nm5 E R M),a63 29 (w9 i4) (nm5 E R M),kRl 30 (w9 (d6 ⟨#[109]⟩)) (nm5 E R M),a63 31 (w9 f8) (nm5 E R M),kRl 32 (w9 (d6 ⟨#[115]⟩)) (nm5 E R M),a3k (nm5 E R M),c0j (nm5 E R M),d3o (nm5 E R M)] }:Kit)) (Kit.ok (m4 (a11 (n9 _)) (m4 (n10 _) (m4 (n25 _) (m4 (a11 (n26 _)) (m4 (n27 _) (m4 (a11 (n28 _)) (m4 (n29 _) (m4 (a11 (n30 _)) (m4 (n31 _) (m4 (a11 (n32 _)) (m4 (n33 _) (m4 (a11 (n34 _)) (m4 (a11 (n19 _)) t6))))))))))))) t7) rfl Tryz.func5 rfl (d6r E R M) rfl (d6q (c9g rfl hL) b1 b2 b3) (DenL.cons hd (DenL.nil _)) (v5 E R M hs)).mono fun e W' ⟨he,hbl⟩=>⟨_,he,?_⟩
 exact c6x c61 (by kernel_rfl) (tb:=4) (by kernel_rfl) (by kernel_rfl) rfl rfl hW' hbl
theorem b19 (os:Os) {H:Type} (enc:TypeId × Value→H):∃ places,DataW.whole enc Tryz.prog ((b08 os).forCall (fun _ _=>0) ⟨#[],#[.agg #[.slice none 0 0,.slice none 0 0,.slice none 0 0]],[]⟩).memory Tryz.f5.params.toList Rows.graphOrdersSpec.vars false (#[.agg #[.slice none 0 0,.slice none 0 0,.slice none 0 0]]:Array Value).toList 8=some ([.agg [.nil,.nil,.nil]],[],places):=
 ⟨[],by kernel_rfl⟩
theorem d3u (os:Os) (started:os.Started) (H:Type) (enc:TypeId × Value→H) (F:Stop.Interp) :
  ReturnsInHanded {} Tryz.checked os 5 .any ((OpenSpec.ofChange Rows.graphOrdersSpec).preRow enc Tryz.prog Tryz.f5 Rows.graphOrdersRow.domain false Rows.graphOrdersRow.laid) (((OpenSpec.ofChange Rows.graphOrdersSpec).at F).post enc Tryz.prog Tryz.f5 false true false false):=by
 obtain⟨places,hx⟩:=b19 os enc
 refine returnsInHanded_of_row (C:=Tryz.checked) (s:=OpenSpec.ofChange Rows.graphOrdersSpec) c9q started (by kernel_rfl) Tryz.func5
  (witness_row_at (enc:=enc) (C:=Tryz.checked) false (b08 os) #[.agg #[.slice none 0 0,.slice none 0 0,.slice none 0 0]] rfl (by kernel_rfl) (by kernel_rfl) (by kernel_rfl)
   (OpenSpec.preRow_of_cond 8 hx (by kernel_rfl) (fun k hk=>by cases hk) (by kernel_rfl) (c62 os _))) ?_
 intro W base args ds gs before hval hW _ _ hw hL _ _
 exact a1y H enc W base args ds gs before hval hW hw hL
theorem c81:Rows.GraphOrdersSaid:=
 OpenClaim.holds_of_cond 5 Tryz.f5 rfl rfl rfl rfl rfl rfl rfl ⟨rfl,rfl,rfl,rfl,rfl⟩ rfl rfl rfl rfl rfl (by kernel_rfl) Tryz.func5 (by kernel_rfl)
  (z0e (by kernel_rfl)) (by unfold Func.isWrapper; first | (rw[if_pos (by decide +kernel)]; kernel_rfl) | (rw[if_neg (by decide +kernel)]; exact⟨rfl,rfl⟩))
  (fun os started H enc _ F=>by rw[OpenClaim.pre_eq_preRow]; exact d3u os started H enc F)
theorem plain (f:FuncId) (fn:Func) (hf:Tryz.pinned.checked.prog.funcNamed "modelcheck/modelchecklaw39.GraphOrders"=some f) (hfn:Tryz.pinned.checked.prog.funcs[f]?=some fn) :
  false=Tryz.pinned.checked.prog.looks []∧∀(j:Nat) t,fn.params[j]?=some t→Tryz.pinned.checked.prog.wantsStandIn t=false:=by
 obtain rfl:f=5:=Option.some.inj ((show Tryz.prog.funcNamed "modelcheck/modelchecklaw39.GraphOrders"=some 5 by kernel_rfl).symm.trans hf) |>.symm
 obtain rfl:fn=Tryz.f5:=(Option.some.inj (Tryz.func5.symm.trans hfn)).symm
 refine⟨by kernel_rfl,fun j t ht=>?_⟩
 have key:(Tryz.f5.params.toList.all fun t=>!(Tryz.prog.wantsStandIn t))=true:=by kernel_rfl
 have h1:Tryz.prog.wantsStandIn t=false:=by simpa using z2l.1 key t (by simpa using Array.mem_of_getElem? ht)
 exact h1
theorem card:Rows.GraphOrdersCardSaid:=
 Claim7.holds_tied_plain_at .later [] _ _ _ _ c81 (fun _ h=>by cases h) (by kernel_rfl) (fun _ h=>by cases h) graphOrders_row_tie rfl ⟨rfl,rfl⟩ (by kernel_rfl) rfl plain (by kernel_rfl)
end GraphOrders
end Go.Proofs.YtaeeaniofljmnaaGreatDoor

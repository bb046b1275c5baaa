/-
 For every graph and every number the law GraphForms (modelchecklaw39) returns true,and the input b4o behind the call as it did before: both writings return the same normal forms,and the same graphs of the first events,with the same errors.
 Conditions: the package-level variable event.rows starts as the text of the program lays it (the card ties it). No other.
-/
import Derived.Test.YtaeeaniofljmnaaGreatDoorJ56a
import Derived.Test.YtaeeaniofljmnaaGreatDoorJ58
namespace Go.Proofs.YtaeeaniofljmnaaGreatDoor
set_option linter.unusedSimpArgs false
set_option linter.unusedVariables false
open Go Go.Proofs.YtaeeaniofljmnaaGreatDoor.Sx Go.ChangeShapes Go.WideShapes Go.ChangeAt Go.RowKit
set_option maxRecDepth 100000
namespace GraphForms
theorem a2c (H:Type) (enc:TypeId × Value→H) (W:World) (base:Nat) (args:Array Value) (ds gs:List (DataW H)) (before:List MemPlace)
  (hval:∀(j:Nat) t v,Tryz.f4.params[j]?=some t→args[j]?=some v→Value.okWide Tryz.prog W .any base t v)
  (hW:DataW.Whole enc Tryz.prog Tryz.f4.params.toList Rows.graphFormsSpec.vars false W args.toList ds gs before)
  (hw:(DataW.weightsEach Tryz.prog (Tryz.f4.params.toList ++ (OpenSpec.ofChange Rows.graphFormsSpec).bare.plain.varTypes Tryz.prog) (ds ++ gs)).all (·≤reachBytes)=true) (hL:laidMetH Tryz.prog Rows.graphFormsRow.laid W) :
  Calls Tryz.prog 4 args W fun e W'=>∃ v,e=.returned v∧Rows.graphFormsSpec.post enc Tryz.prog Tryz.f4 false true false false W args v W':=by
 have hW':=hW
 obtain⟨p,q,hA,hV,hb,hfz,hnd⟩:=hW
 rw[Tryz.params4] at hA hval hw
 obtain⟨v0,vs0,d0,ds0,p0,q0,hargs,rfl,rfl,h0,r0⟩:=trodAll_cons hA
 obtain⟨v1,vs1,d1,ds1,p1,q1,rfl,rfl,rfl,h1,r1⟩:=trodAll_cons r0
 obtain⟨rfl,rfl,rfl⟩:=trodAll_nil r1
 obtain rfl:args = #[v0,v1]:=by cases args; simp_all
 obtain⟨rfl,rfl⟩:=trodVars_none hV
 obtain⟨E,R,M,y1,y2,y3,hs0,z0⟩:=c28 1 (hval 0 _ _ rfl rfl) h0 fun n hn=>z0e (z2h.1 hw n (DataW.weights_mem_each (j:=0) rfl rfl n hn))
 obtain⟨n,rfl,rfl,rfl,k1⟩:=open_int (k:=.i64) (by kernel_rfl) (hval 1 _ _ rfl rfl) h1
 obtain⟨⟨b1,b2,b3⟩,g0⟩:=z0 (eG y1 y2 y3) rfl rfl rfl
 refine(d14 (K:=({ g:=true,calls:=[kFew (nm4 E R M n),kAwk (nm4 E R M n),c7c (nm4 E R M n),d42 (nm4 E R M n),d43 (nm4 E R M n),d44 (nm4 E R M n),kEqu (nm4 E R M n)] }:Kit)) (Kit.ok (m9 (a1o (n9 _)) (m9 (n10 _) (m9 (n20 _) (m9 (a1o (n21 _)) (m9 (n22 _) (m9 (a1o (n23 _)) (m9 (a1o (n24 _)) t9))))))) u4) rfl Tryz.func4 rfl (d8v E R M) rfl (d8u (d13 rfl hL) b1 b2 b3) (DenL.cons g0 (DenL.cons (.i _ _) (DenL.nil _))) (v4 E R M n hs0)).mono fun e W' ⟨he,hbl⟩=>⟨_,he,?_⟩
 exact c87 c7h (by kernel_rfl) (tb:=4) (by kernel_rfl) (by kernel_rfl) rfl rfl hW' hbl
theorem b4o (os:Os) {H:Type} (enc:TypeId × Value→H):∃ places,DataW.whole enc Tryz.prog ((b0u os).forCall (fun _ _=>0) ⟨#[],#[.agg #[.slice none 0 0,.slice none 0 0,.slice none 0 0],.int .i64 0],[]⟩).memory Tryz.f4.params.toList Rows.graphFormsSpec.vars false (#[.agg #[.slice none 0 0,.slice none 0 0,.slice none 0 0],.int .i64 0]:Array Value).toList 8=some ([.agg [.nil,.nil,.nil],.lit (.int .i64 0)],[],places):=
 ⟨[],by kernel_rfl⟩
theorem d5h (os:Os) (started:os.Started) (H:Type) (enc:TypeId × Value→H) (F:Stop.Interp) :
  ReturnsInHanded {} Tryz.checked os 4 .any ((OpenSpec.ofChange Rows.graphFormsSpec).preRow enc Tryz.prog Tryz.f4 Rows.graphFormsRow.domain false Rows.graphFormsRow.laid) (((OpenSpec.ofChange Rows.graphFormsSpec).at F).post enc Tryz.prog Tryz.f4 false true false false):=by
 obtain⟨places,hx⟩:=b4o os enc
 refine returnsInHanded_of_row (C:=Tryz.checked) (s:=OpenSpec.ofChange Rows.graphFormsSpec) d1e started (by kernel_rfl) Tryz.func4
  (witness_row_at (enc:=enc) (C:=Tryz.checked) false (b0u os) #[.agg #[.slice none 0 0,.slice none 0 0,.slice none 0 0],.int .i64 0] rfl (by kernel_rfl) (by kernel_rfl) (by kernel_rfl)
   (OpenSpec.preRow_of_cond 8 hx (by kernel_rfl) (fun k hk=>by cases hk) (by kernel_rfl) (c7i os _))) ?_
 intro W base args ds gs before hval hW _ _ hw hL _ _
 exact a2c H enc W base args ds gs before hval hW hw hL
theorem c9f:Rows.GraphFormsSaid:=
 OpenClaim.holds_of_cond 4 Tryz.f4 rfl rfl rfl rfl rfl rfl rfl ⟨rfl,rfl,rfl,rfl,rfl⟩ rfl rfl rfl rfl rfl (by kernel_rfl) Tryz.func4 (by kernel_rfl)
  (z0e (by kernel_rfl)) (by unfold Func.isWrapper; first | (rw[if_pos (by decide +kernel)]; kernel_rfl) | (rw[if_neg (by decide +kernel)]; exact⟨rfl,rfl⟩))
  (fun os started H enc _ F=>by rw[OpenClaim.pre_eq_preRow]; exact d5h os started H enc F)
theorem plain (f:FuncId) (fn:Func) (hf:Tryz.pinned.checked.prog.funcNamed "modelcheck/modelchecklaw39.GraphForms"=some f) (hfn:Tryz.pinned.checked.prog.funcs[f]?=some fn) :
  false=Tryz.pinned.checked.prog.looks []∧∀(j:Nat) t,fn.params[j]?=some t→Tryz.pinned.checked.prog.wantsStandIn t=false:=by
 obtain rfl:f=4:=Option.some.inj ((show Tryz.prog.funcNamed "modelcheck/modelchecklaw39.GraphForms"=some 4 by kernel_rfl).symm.trans hf) |>.symm
 obtain rfl:fn=Tryz.f4:=(Option.some.inj (Tryz.func4.symm.trans hfn)).symm
 refine⟨by kernel_rfl,fun j t ht=>?_⟩
 have key:(Tryz.f4.params.toList.all fun t=>!(Tryz.prog.wantsStandIn t))=true:=by kernel_rfl
 have h1:Tryz.prog.wantsStandIn t=false:=by simpa using z2h.1 key t (by simpa using Array.mem_of_getElem? ht)
 exact h1
theorem card:Rows.GraphFormsCardSaid:=
 Claim7.holds_tied_plain_at .later [] _ _ _ _ c9f (fun _ h=>by cases h) (by kernel_rfl) (fun _ h=>by cases h) graphForms_row_tie rfl ⟨rfl,rfl⟩ (by kernel_rfl) rfl plain (by kernel_rfl)
end GraphForms
end Go.Proofs.YtaeeaniofljmnaaGreatDoor

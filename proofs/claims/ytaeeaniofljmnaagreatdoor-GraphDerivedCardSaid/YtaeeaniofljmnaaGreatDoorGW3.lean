/-
 For every graph the law GraphDerived (modelchecklaw39) returns true,and the input b3r behind the call as it did before: both writings return the same relations: read before write,synchronization,happens before,extended coherence,of valid graphs and of no others.
 Conditions: the package-level variable event.rows starts as the text of the program lays it (the card ties it). No other.
-/
import Derived.Test.YtaeeaniofljmnaaGreatDoorG52
namespace Go.Proofs.YtaeeaniofljmnaaGreatDoor
set_option linter.unusedSimpArgs false
set_option linter.unusedVariables false
open Go Go.Proofs.YtaeeaniofljmnaaGreatDoor.Sx Go.ChangeShapes Go.WideShapes Go.ChangeAt Go.RowKit
set_option maxRecDepth 100000
namespace GraphDerived
theorem a29 (H:Type) (enc:TypeId × Value→H) (W:World) (base:Nat) (args:Array Value) (ds gs:List (DataW H)) (before:List MemPlace)
  (hval:∀(j:Nat) t v,Tryz.f3.params[j]?=some t→args[j]?=some v→Value.okWide Tryz.prog W .any base t v)
  (hW:DataW.Whole enc Tryz.prog Tryz.f3.params.toList Rows.graphDerivedSpec.vars false W args.toList ds gs before)
  (hw:(DataW.weightsEach Tryz.prog (Tryz.f3.params.toList ++ (OpenSpec.ofChange Rows.graphDerivedSpec).bare.plain.varTypes Tryz.prog) (ds ++ gs)).all (·≤reachBytes)=true) (hL:laidMetH Tryz.prog Rows.graphDerivedRow.laid W) :
  Calls Tryz.prog 3 args W fun e W'=>∃ v,e=.returned v∧Rows.graphDerivedSpec.post enc Tryz.prog Tryz.f3 false true false false W args v W':=by
 have hW':=hW
 obtain⟨p,q,hA,hV,hb,hfz,hnd⟩:=hW
 rw[Tryz.params3] at hA hval hw
 obtain⟨v0,vs0,d0,ds0,p0,q0,hargs,rfl,rfl,h0,r0⟩:=trodAll_cons hA
 obtain⟨rfl,rfl,rfl⟩:=trodAll_nil r0
 obtain rfl:args = #[v0]:=by cases args; simp_all
 obtain⟨rfl,rfl⟩:=trodVars_none hV
 obtain⟨E,R,M,y0,y1,y2,hs,z⟩:=c1t (hval 0 _ _ rfl rfl) h0 fun n hn=>z0e (z2n.1 hw n (DataW.weights_mem_each (j:=0) rfl rfl n hn))
 obtain⟨⟨b1,b2,b3⟩,hd⟩:=z (eG y0 y1 y2) rfl rfl rfl
 refine(d2w (K:=({ g:=true,calls:=[kFew (nm3 E R M),kAwk (nm3 E R M),a8x 11 (a1a g8) (nm3 E R M),kRl 12 (a1a (d9 ⟨#[102]⟩)) (nm3 E R M),a8x 13 (a1a p8) (nm3 E R M),kRl 14 (a1a (d9 ⟨#[119]⟩)) (nm3 E R M),a8x 15 (a5k poG f8 p8) (nm3 E R M),kRl 16 (b1b (d9 ⟨#[112,115,119]⟩)) (nm3 E R M),a8x 17 (a5k rfG i6 g8) (nm3 E R M),kRl 18 (b1b (d9 ⟨#[114,109,102]⟩)) (nm3 E R M),kAgr (nm3 E R M)] }:Kit)) (Kit.ok (m6 (a1f (n9 _)) (m6 (n10 _) (m6 (n11 _) (m6 (a1f (n12 _)) (m6 (n13 _) (m6 (a1f (n14 _)) (m6 (n15 _) (m6 (a1f (n16 _)) (m6 (n17 _) (m6 (a1f (n18 _)) (m6 (a1f (n19 _)) t8))))))))))) t9) rfl Tryz.func3 rfl (d9b E R M) rfl (d80 (d16 rfl hL) b1 b2 b3) (DenL.cons hd (DenL.nil _)) (v3 E R M hs)).mono fun e W' ⟨he,hbl⟩=>⟨_,he,?_⟩
 exact c97 c8t (by kernel_rfl) (tb:=4) (by kernel_rfl) (by kernel_rfl) rfl rfl hW' hbl
theorem b3r (os:Os) {H:Type} (enc:TypeId × Value→H):∃ places,DataW.whole enc Tryz.prog ((b14 os).forCall (fun _ _=>0) ⟨#[],#[.agg #[.slice none 0 0,.slice none 0 0,.slice none 0 0]],[]⟩).memory Tryz.f3.params.toList Rows.graphDerivedSpec.vars false (#[.agg #[.slice none 0 0,.slice none 0 0,.slice none 0 0]]:Array Value).toList 8=some ([.agg [.nil,.nil,.nil]],[],places):=
 ⟨[],by kernel_rfl⟩
theorem d5t (os:Os) (started:os.Started) (H:Type) (enc:TypeId × Value→H) (F:Stop.Interp) :
  ReturnsInHanded {} Tryz.checked os 3 .any ((OpenSpec.ofChange Rows.graphDerivedSpec).preRow enc Tryz.prog Tryz.f3 Rows.graphDerivedRow.domain false Rows.graphDerivedRow.laid) (((OpenSpec.ofChange Rows.graphDerivedSpec).at F).post enc Tryz.prog Tryz.f3 false true false false):=by
 obtain⟨places,hx⟩:=b3r os enc
 refine returnsInHanded_of_row (C:=Tryz.checked) (s:=OpenSpec.ofChange Rows.graphDerivedSpec) c9l started (by kernel_rfl) Tryz.func3
  (witness_row_at (enc:=enc) (C:=Tryz.checked) false (b14 os) #[.agg #[.slice none 0 0,.slice none 0 0,.slice none 0 0]] rfl (by kernel_rfl) (by kernel_rfl) (by kernel_rfl)
   (OpenSpec.preRow_of_cond 8 hx (by kernel_rfl) (fun k hk=>by cases hk) (by kernel_rfl) (c7o os _))) ?_
 intro W base args ds gs before hval hW _ _ hw hL _ _
 exact a29 H enc W base args ds gs before hval hW hw hL
theorem c8o:Rows.GraphDerivedSaid:=
 OpenClaim.holds_of_cond 3 Tryz.f3 rfl rfl rfl rfl rfl rfl rfl ⟨rfl,rfl,rfl,rfl,rfl⟩ rfl rfl rfl rfl rfl (by kernel_rfl) Tryz.func3 (by kernel_rfl)
  (z0e (by kernel_rfl)) (by unfold Func.isWrapper; first | (rw[if_pos (by decide +kernel)]; kernel_rfl) | (rw[if_neg (by decide +kernel)]; exact⟨rfl,rfl⟩))
  (fun os started H enc _ F=>by rw[OpenClaim.pre_eq_preRow]; exact d5t os started H enc F)
theorem plain (f:FuncId) (fn:Func) (hf:Tryz.pinned.checked.prog.funcNamed "modelcheck/modelchecklaw39.GraphDerived"=some f) (hfn:Tryz.pinned.checked.prog.funcs[f]?=some fn) :
  false=Tryz.pinned.checked.prog.looks []∧∀(j:Nat) t,fn.params[j]?=some t→Tryz.pinned.checked.prog.wantsStandIn t=false:=by
 obtain rfl:f=3:=Option.some.inj ((show Tryz.prog.funcNamed "modelcheck/modelchecklaw39.GraphDerived"=some 3 by kernel_rfl).symm.trans hf) |>.symm
 obtain rfl:fn=Tryz.f3:=(Option.some.inj (Tryz.func3.symm.trans hfn)).symm
 refine⟨by kernel_rfl,fun j t ht=>?_⟩
 have key:(Tryz.f3.params.toList.all fun t=>!(Tryz.prog.wantsStandIn t))=true:=by kernel_rfl
 have h1:Tryz.prog.wantsStandIn t=false:=by simpa using z2n.1 key t (by simpa using Array.mem_of_getElem? ht)
 exact h1
theorem card:Rows.GraphDerivedCardSaid:=
 Claim7.holds_tied_plain_at .later [] _ _ _ _ c8o (fun _ h=>by cases h) (by kernel_rfl) (fun _ h=>by cases h) graphDerived_row_tie rfl ⟨rfl,rfl⟩ (by kernel_rfl) rfl plain (by kernel_rfl)
end GraphDerived
end Go.Proofs.YtaeeaniofljmnaaGreatDoor

/-
  A part of the proof (Rw6).
-/
import Derived.Test.YtcbmbnlgilampaaRw5
namespace Go.Proofs.Ytcbmbnlgilampaa
open Go Go.Proofs.Ytcbmbnlgilampaa.Sx
set_option maxRecDepth 100000
set_option linter.unusedSimpArgs false
set_option linter.unusedVariables false

theorem okT {fid : FuncId} {fn : Func} {ks : List AK} {S : List AV → Option (List Prop × RV)} (hfn : Try.prog.funcs[fid]? = some fn) (hok : fnOk Try.prog fid) (T : List AV → Tab) (hT : ∀ av, TabOk Try.prog (T av)) (hg : ∀ av, (T av).globals = [] ∧ (T av).pins = [])
    (hres : ∀ av pre rv, S av = some (pre, rv) → rv.ok = true ∧ (∀ t a, rv = .sl t a → a.cols ≠ []))
    (hv : ∀ av pre rv, S av = some (pre, rv) → (∀ p ∈ pre, p) → fnVc (T av) fn (lcVs 0 av) (lcMem av) (rv.post EL)) : CallOk Try.prog [] fid (genF EL [] ks S) :=
  genOk hfn hok hres fun av pre rv h hp => ⟨_, hT av, (hg av).1, (hg av).2, hv av pre rv h hp⟩
theorem fo21 : fnOk Try.prog 21 := ⟨Try.f21, Try.func21, by kernel_rfl, by kernel_rfl⟩
theorem fo22 : fnOk Try.prog 22 := ⟨Try.f22, Try.func22, by kernel_rfl, by kernel_rfl⟩
theorem fo44 : fnOk Try.prog 44 := ⟨Try.f44, Try.func44, by kernel_rfl, by kernel_rfl⟩
theorem fo41 : fnOk Try.prog 41 := ⟨Try.f41, Try.func41, by kernel_rfl, by kernel_rfl⟩
theorem fo42 : fnOk Try.prog 42 := ⟨Try.f42, Try.func42, by kernel_rfl, by kernel_rfl⟩
theorem fo36 : fnOk Try.prog 36 := ⟨Try.f36, Try.func36, by kernel_rfl, by kernel_rfl⟩
theorem fo47 : fnOk Try.prog 47 := ⟨Try.f47, Try.func47, by kernel_rfl, by kernel_rfl⟩
theorem fo43 : fnOk Try.prog 43 := ⟨Try.f43, Try.func43, by kernel_rfl, by kernel_rfl⟩
theorem fo23 : fnOk Try.prog 23 := ⟨Try.f23, Try.func23, by kernel_rfl, by kernel_rfl⟩
theorem fo24 : fnOk Try.prog 24 := ⟨Try.f24, Try.func24, by kernel_rfl, by kernel_rfl⟩
theorem fo25 : fnOk Try.prog 25 := ⟨Try.f25, Try.func25, by kernel_rfl, by kernel_rfl⟩
theorem fo26 : fnOk Try.prog 26 := ⟨Try.f26, Try.func26, by kernel_rfl, by kernel_rfl⟩
theorem fo45 : fnOk Try.prog 45 := ⟨Try.f45, Try.func45, by kernel_rfl, by kernel_rfl⟩
theorem fo29 : fnOk Try.prog 29 := ⟨Try.f29, Try.func29, by kernel_rfl, by kernel_rfl⟩
theorem fo31 : fnOk Try.prog 31 := ⟨Try.f31, Try.func31, by kernel_rfl, by kernel_rfl⟩
theorem fo30 : fnOk Try.prog 30 := ⟨Try.f30, Try.func30, by kernel_rfl, by kernel_rfl⟩
theorem fo33 : fnOk Try.prog 33 := ⟨Try.f33, Try.func33, by kernel_rfl, by kernel_rfl⟩
def t21 : List AV → Tab
  | [.r N l] => tab [] [(0, .of (lVal N l 16))]
  | _ => tab [] []
theorem c21 : CallOk Try.prog [] 21 (genF EL [] [.r] sVal) := by
  refine okT (fn := Try.f21) Try.func21 fo21 t21 (fun av => ?_) (fun av => ?_) (fun av pre rv h => ?_) (fun av pre rv h hp => ?_)
  · unfold t21; split <;> first | exact tabOk mNil | exact tabOk mNil
  · unfold t21; split <;> exact ⟨rfl, rfl⟩
  · unfold sVal at h; split at h <;> cases h
    exact ⟨rfl, fun t a e => by cases e <;> exact List.cons_ne_nil _ _⟩
  · unfold sVal at h; split at h <;> cases h
    exact v21 _ _ (hp _ (.head _))
theorem n21 (nm : List (Option AV)) : CallOk Try.prog [] 21 (genF EL nm [.r] sVal) := genNm c21
def t22 : List AV → Tab
  | [.r N l] => tab [] [(0, .of (lVal N l 3))]
  | _ => tab [] []
theorem c22 : CallOk Try.prog [] 22 (genF EL [] [.r] sVal) := by
  refine okT (fn := Try.f22) Try.func22 fo22 t22 (fun av => ?_) (fun av => ?_) (fun av pre rv h => ?_) (fun av pre rv h hp => ?_)
  · unfold t22; split <;> first | exact tabOk mNil | exact tabOk mNil
  · unfold t22; split <;> exact ⟨rfl, rfl⟩
  · unfold sVal at h; split at h <;> cases h
    exact ⟨rfl, fun t a e => by cases e <;> exact List.cons_ne_nil _ _⟩
  · unfold sVal at h; split at h <;> cases h
    exact v22 _ _ (hp _ (.head _))
theorem n22 (nm : List (Option AV)) : CallOk Try.prog [] 22 (genF EL nm [.r] sVal) := genNm c22
def t44 : List AV → Tab
  | [.r N l] => tab [] [(0, .of (lSet l 10 2))]
  | _ => tab [] []
theorem c44 : CallOk Try.prog [] 44 (genF EL [] [.r] sSet) := by
  refine okT (fn := Try.f44) Try.func44 fo44 t44 (fun av => ?_) (fun av => ?_) (fun av pre rv h => ?_) (fun av pre rv h hp => ?_)
  · unfold t44; split <;> first | exact tabOk mNil | exact tabOk mNil
  · unfold t44; split <;> exact ⟨rfl, rfl⟩
  · unfold sSet at h; split at h <;> cases h
    exact ⟨rfl, fun t a e => by cases e <;> exact List.cons_ne_nil _ _⟩
  · unfold sSet at h; split at h <;> cases h
    exact v44 _ _ (hp _ (.head _))
theorem n44 (nm : List (Option AV)) : CallOk Try.prog [] 44 (genF EL nm [.r] sSet) := genNm c44
def t41 : List AV → Tab
  | [.i n, .mp f] => tabG [] [(0, .of (lOut n f 11)), (2, lInn n f 15)] 2 [.fresh 2 1 38 2]
  | _ => tab [] []
theorem c41 : CallOk Try.prog [] 41 (genF EL [] [.i, .mp] sNor) := by
  refine okT (fn := Try.f41) Try.func41 fo41 t41 (fun av => ?_) (fun av => ?_) (fun av pre rv h => ?_) (fun av pre rv h hp => ?_)
  · unfold t41; split <;> first | exact tabGOk mNil | exact tabOk mNil
  · unfold t41; split <;> exact ⟨rfl, rfl⟩
  · unfold sNor at h; split at h <;> cases h
    exact ⟨rfl, fun t a e => by cases e <;> exact List.cons_ne_nil _ _⟩
  · unfold sNor at h; split at h <;> cases h
    exact v41 _ _ (hp _ (.head _))
theorem n41 (nm : List (Option AV)) : CallOk Try.prog [] 41 (genF EL nm [.i, .mp] sNor) := genNm c41
def t42 : List AV → Tab
  | [.i n, .bs h] => tabG [] [(0, .of (lOut n (tblF n.toNat h) 6)), (2, lInn n (tblF n.toNat h) 7)] 2 [.fresh 2 1 38 2]
  | _ => tab [] []
theorem c42 : CallOk Try.prog [] 42 (genF EL [] [.i, .bs] sLst) := by
  refine okT (fn := Try.f42) Try.func42 fo42 t42 (fun av => ?_) (fun av => ?_) (fun av pre rv h => ?_) (fun av pre rv h hp => ?_)
  · unfold t42; split <;> first | exact tabGOk mNil | exact tabOk mNil
  · unfold t42; split <;> exact ⟨rfl, rfl⟩
  · unfold sLst at h; split at h <;> cases h
    exact ⟨rfl, fun t a e => by cases e <;> exact List.cons_ne_nil _ _⟩
  · unfold sLst at h; split at h <;> cases h
    exact v42 _ _ (hp _ (.head _)) (hp _ (.tail _ (.head _)))
theorem n42 (nm : List (Option AV)) : CallOk Try.prog [] 42 (genF EL nm [.i, .bs] sLst) := genNm c42
def t36 : List AV → Tab
  | [.r N l] => tab [] [(0, .of (lTbl N l 4 3))]
  | _ => tab [] []
theorem c36 : CallOk Try.prog [] 36 (genF EL [] [.r] sTbl) := by
  refine okT (fn := Try.f36) Try.func36 fo36 t36 (fun av => ?_) (fun av => ?_) (fun av pre rv h => ?_) (fun av pre rv h hp => ?_)
  · unfold t36; split <;> first | exact tabOk mNil | exact tabOk mNil
  · unfold t36; split <;> exact ⟨rfl, rfl⟩
  · unfold sTbl at h; split at h <;> cases h
    exact ⟨rfl, fun t a e => by cases e <;> exact List.cons_ne_nil _ _⟩
  · unfold sTbl at h; split at h <;> cases h
    exact v36 _ _ (hp _ (.head _)) (hp _ (.tail _ (.head _)))
theorem n36 (nm : List (Option AV)) : CallOk Try.prog [] 36 (genF EL nm [.r] sTbl) := genNm c36
def t47 : List AV → Tab
  | [.ps l, .pr p] => tab [] [(0, .of (lIdx l p 8))]
  | _ => tab [] []
theorem c47 : CallOk Try.prog [] 47 (genF EL [] [.ps, .pr] sIdx) := by
  refine okT (fn := Try.f47) Try.func47 fo47 t47 (fun av => ?_) (fun av => ?_) (fun av pre rv h => ?_) (fun av pre rv h hp => ?_)
  · unfold t47; split <;> first | exact tabOk mNil | exact tabOk mNil
  · unfold t47; split <;> exact ⟨rfl, rfl⟩
  · unfold sIdx at h; split at h <;> cases h
    exact ⟨rfl, fun t a e => by cases e <;> exact List.cons_ne_nil _ _⟩
  · unfold sIdx at h; split at h <;> cases h
    exact v47 _ _ (hp _ (.head _))
theorem n47 (nm : List (Option AV)) : CallOk Try.prog [] 47 (genF EL nm [.ps, .pr] sIdx) := genNm c47
def t43 : List AV → Tab
  | [.ps l, .pr p] => tab [kIdx []] []
  | _ => tab [] []
theorem c43 : CallOk Try.prog [] 43 (genF EL [] [.ps, .pr] sCon) := by
  refine okT (fn := Try.f43) Try.func43 fo43 t43 (fun av => ?_) (fun av => ?_) (fun av pre rv h => ?_) (fun av pre rv h hp => ?_)
  · unfold t43; split <;> first | exact tabOk (mOne (n47 _) mNil) | exact tabOk mNil
  · unfold t43; split <;> exact ⟨rfl, rfl⟩
  · unfold sCon at h; split at h <;> cases h
    exact ⟨rfl, fun t a e => by cases e <;> exact List.cons_ne_nil _ _⟩
  · unfold sCon at h; split at h <;> cases h
    exact v43 _ _ (hp _ (.head _))
theorem n43 (nm : List (Option AV)) : CallOk Try.prog [] 43 (genF EL nm [.ps, .pr] sCon) := genNm c43
def t23 : List AV → Tab
  | [.r N l, .i a, .i b] => tab [kVal [], kCon []] []
  | _ => tab [] []
theorem c23 : CallOk Try.prog [] 23 (genF EL [] [.r, .i, .i] sHas) := by
  refine okT (fn := Try.f23) Try.func23 fo23 t23 (fun av => ?_) (fun av => ?_) (fun av pre rv h => ?_) (fun av pre rv h hp => ?_)
  · unfold t23; split <;> first | exact tabOk (mOne (n21 _) (mOne (n43 _) mNil)) | exact tabOk mNil
  · unfold t23; split <;> exact ⟨rfl, rfl⟩
  · unfold sHas at h; split at h <;> cases h
    exact ⟨rfl, fun t a e => by cases e <;> exact List.cons_ne_nil _ _⟩
  · unfold sHas at h; split at h <;> cases h
    exact v23 _ _ _ _ (hp _ (.head _))
theorem n23 (nm : List (Option AV)) : CallOk Try.prog [] 23 (genF EL nm [.r, .i, .i] sHas) := genNm c23
def t24 : List AV → Tab
  | [.r N l, .i a, .i b] => tab [kVal' []] [(0, .of (lHas l a b 7))]
  | _ => tab [] []
theorem c24 : CallOk Try.prog [] 24 (genF EL [] [.r, .i, .i] sHas) := by
  refine okT (fn := Try.f24) Try.func24 fo24 t24 (fun av => ?_) (fun av => ?_) (fun av pre rv h => ?_) (fun av pre rv h hp => ?_)
  · unfold t24; split <;> first | exact tabOk (mOne (n22 _) mNil) | exact tabOk mNil
  · unfold t24; split <;> exact ⟨rfl, rfl⟩
  · unfold sHas at h; split at h <;> cases h
    exact ⟨rfl, fun t a e => by cases e <;> exact List.cons_ne_nil _ _⟩
  · unfold sHas at h; split at h <;> cases h
    exact v24 _ _ _ _ (hp _ (.head _))
theorem n24 (nm : List (Option AV)) : CallOk Try.prog [] 24 (genF EL nm [.r, .i, .i] sHas) := genNm c24
def t25 : List AV → Tab
  | [.r N l] => tab [kVal [], kSet [], kNor []] []
  | _ => tab [] []
theorem c25 : CallOk Try.prog [] 25 (genF EL [] [.r] sNml) := by
  refine okT (fn := Try.f25) Try.func25 fo25 t25 (fun av => ?_) (fun av => ?_) (fun av pre rv h => ?_) (fun av pre rv h hp => ?_)
  · unfold t25; split <;> first | exact tabOk (mOne (n21 _) (mOne (n44 _) (mOne (n41 _) mNil))) | exact tabOk mNil
  · unfold t25; split <;> exact ⟨rfl, rfl⟩
  · unfold sNml at h; split at h <;> cases h
    exact ⟨rfl, fun t a e => by cases e <;> exact List.cons_ne_nil _ _⟩
  · unfold sNml at h; split at h <;> cases h
    exact v25 _ _ (hp _ (.head _))
theorem n25 (nm : List (Option AV)) : CallOk Try.prog [] 25 (genF EL nm [.r] sNml) := genNm c25
def t26 : List AV → Tab
  | [.r N l] => tab [kVal' [], kTbl [], kLst []] []
  | _ => tab [] []
theorem c26 : CallOk Try.prog [] 26 (genF EL [] [.r] sNml) := by
  refine okT (fn := Try.f26) Try.func26 fo26 t26 (fun av => ?_) (fun av => ?_) (fun av pre rv h => ?_) (fun av pre rv h hp => ?_)
  · unfold t26; split <;> first | exact tabOk (mOne (n22 _) (mOne (n36 _) (mOne (n42 _) mNil))) | exact tabOk mNil
  · unfold t26; split <;> exact ⟨rfl, rfl⟩
  · unfold sNml at h; split at h <;> cases h
    exact ⟨rfl, fun t a e => by cases e <;> exact List.cons_ne_nil _ _⟩
  · unfold sNml at h; split at h <;> cases h
    exact v26 _ _ (hp _ (.head _))
theorem n26 (nm : List (Option AV)) : CallOk Try.prog [] 26 (genF EL nm [.r] sNml) := genNm c26
def t45 : List AV → Tab
  | [.r A a, .r B b] => tab [kVal []] []
  | _ => tab [] []
theorem c45 : CallOk Try.prog [] 45 (genF EL [] [.r, .r] sBth) := by
  refine okT (fn := Try.f45) Try.func45 fo45 t45 (fun av => ?_) (fun av => ?_) (fun av pre rv h => ?_) (fun av pre rv h hp => ?_)
  · unfold t45; split <;> first | exact tabOk (mOne (n21 _) mNil) | exact tabOk mNil
  · unfold t45; split <;> exact ⟨rfl, rfl⟩
  · unfold sBth at h; split at h <;> cases h
    exact ⟨rfl, fun t a e => by cases e <;> exact List.cons_ne_nil _ _⟩
  · unfold sBth at h; split at h <;> cases h
    exact v45 _ _ _ _ (hp _ (.head _)) (hp _ (.tail _ (.head _)))
theorem n45 (nm : List (Option AV)) : CallOk Try.prog [] 45 (genF EL nm [.r, .r] sBth) := genNm c45
def t29 : List AV → Tab
  | [.r A a, .r B b] => tab [kBth [], kSet [], kNor []] [(0, .of (lUni a b 19 5))]
  | _ => tab [] []
theorem c29 : CallOk Try.prog [] 29 (genF EL [] [.r, .r] sUni) := by
  refine okT (fn := Try.f29) Try.func29 fo29 t29 (fun av => ?_) (fun av => ?_) (fun av pre rv h => ?_) (fun av pre rv h hp => ?_)
  · unfold t29; split <;> first | exact tabOk (mOne (n45 _) (mOne (n44 _) (mOne (n41 _) mNil))) | exact tabOk mNil
  · unfold t29; split <;> exact ⟨rfl, rfl⟩
  · unfold sUni at h; split at h <;> cases h
    exact ⟨rfl, fun t a e => by cases e <;> exact List.cons_ne_nil _ _⟩
  · unfold sUni at h; split at h <;> cases h
    exact v29 _ _ _ _ (hp _ (.head _)) (hp _ (.tail _ (.head _)))
theorem n29 (nm : List (Option AV)) : CallOk Try.prog [] 29 (genF EL nm [.r, .r] sUni) := genNm c29
def t31 : List AV → Tab
  | [.r A a, .r B b] => tabG [kVal' [], kNml' [none, none, none, none, none, none, some (.ps (a ++ b))]] [] 4 [.fresh 5 1 38 2]
  | _ => tab [] []
theorem c31 : CallOk Try.prog [] 31 (genF EL [] [.r, .r] sUni) := by
  refine okT (fn := Try.f31) Try.func31 fo31 t31 (fun av => ?_) (fun av => ?_) (fun av pre rv h => ?_) (fun av pre rv h hp => ?_)
  · unfold t31; split <;> first | exact tabGOk (mOne (n22 _) (mOne (n26 _) mNil)) | exact tabOk mNil
  · unfold t31; split <;> exact ⟨rfl, rfl⟩
  · unfold sUni at h; split at h <;> cases h
    exact ⟨rfl, fun t a e => by cases e <;> exact List.cons_ne_nil _ _⟩
  · unfold sUni at h; split at h <;> cases h
    exact v31 _ _ _ _ (hp _ (.head _)) (hp _ (.tail _ (.head _))) (hp _ (.tail _ (.tail _ (.head _))))
theorem n31 (nm : List (Option AV)) : CallOk Try.prog [] 31 (genF EL nm [.r, .r] sUni) := genNm c31
def t30 : List AV → Tab
  | [.r N l] => tab [kVal [], kNor []] [(0, .of (lInv l 14 3))]
  | _ => tab [] []
theorem c30 : CallOk Try.prog [] 30 (genF EL [] [.r] sInv) := by
  refine okT (fn := Try.f30) Try.func30 fo30 t30 (fun av => ?_) (fun av => ?_) (fun av pre rv h => ?_) (fun av pre rv h hp => ?_)
  · unfold t30; split <;> first | exact tabOk (mOne (n21 _) (mOne (n41 _) mNil)) | exact tabOk mNil
  · unfold t30; split <;> exact ⟨rfl, rfl⟩
  · unfold sInv at h; split at h <;> cases h
    exact ⟨rfl, fun t a e => by cases e <;> exact List.cons_ne_nil _ _⟩
  · unfold sInv at h; split at h <;> cases h
    exact v30 _ _ (hp _ (.head _))
theorem n30 (nm : List (Option AV)) : CallOk Try.prog [] 30 (genF EL nm [.r] sInv) := genNm c30
def t33 : List AV → Tab
  | [.r N l] => tabG [kVal' [], kNml' [none, none, none, none, some (.ps (swapL l))]] [(0, .of (lSwp N l 4))] 4 [.fresh 3 1 38 2]
  | _ => tab [] []
theorem c33 : CallOk Try.prog [] 33 (genF EL [] [.r] sInv) := by
  refine okT (fn := Try.f33) Try.func33 fo33 t33 (fun av => ?_) (fun av => ?_) (fun av pre rv h => ?_) (fun av pre rv h hp => ?_)
  · unfold t33; split <;> first | exact tabGOk (mOne (n22 _) (mOne (n26 _) mNil)) | exact tabOk mNil
  · unfold t33; split <;> exact ⟨rfl, rfl⟩
  · unfold sInv at h; split at h <;> cases h
    exact ⟨rfl, fun t a e => by cases e <;> exact List.cons_ne_nil _ _⟩
  · unfold sInv at h; split at h <;> cases h
    exact v33 _ _ (hp _ (.head _))
theorem n33 (nm : List (Option AV)) : CallOk Try.prog [] 33 (genF EL nm [.r] sInv) := genNm c33
end Go.Proofs.Ytcbmbnlgilampaa

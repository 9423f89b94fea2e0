/-
  'AnswerMarks': for every input the law returns true, and what is handed in reads as before. No condition.
-/
import Derived.Test.YtifhdbgciehicaaQmad
import Derived.Test.YtifhdbgciehicaaRows
import Derived.WalkKit
import Derived.ProofKit
set_option linter.unusedVariables false
set_option linter.unusedSectionVars false
set_option linter.unusedSimpArgs false
namespace Go.Proofs.Ytifhdbgciehicaa
open Go.RowKit
set_option maxRecDepth 100000
theorem vif_t [InW] {b : Bool} {A B : Prop} (hb : b = true) (ha : A) : Vif b A B := Vif_iff.2 ⟨fun _ => ha, fun h => absurd (hb.symm.trans h) (by decide)⟩
theorem Xkp [W : InW] (Q : DS -> Prop) (h : Q [[.b true]]) : Xbh Q := by
 unfold Xbh;delta Zbs Zbo Zbp Zbq Zbr Zbu Zbt Zbn Zb
 repeat first | refine vif_t (by kernel_rfl) ?_ | refine Pre_iff.2 ⟨trivial, ?_⟩ | refine Pre_iff.2 ⟨by kernel_rfl, ?_⟩ | refine Pre_iff.2 ⟨⟨by kernel_rfl, by kernel_rfl, by kernel_rfl⟩, ?_⟩
 exact (congrArg Q (by kernel_rfl)).mpr h
noncomputable def Xju : PC Try.prog := ⟨22, [], [(false, [.bool])], fun _ => True, fun _ => [[.b true]], Xkd fun W hp Q h => Xkp Q h⟩
open Go.RowKit
set_option maxRecDepth 100000
set_option maxHeartbeats 1600000
noncomputable def TL3 : Tab Try.prog := ⟨[Xc7, Xu, Xoi, Xh2, Xce, Xju], [], []⟩
def Xr [W : InW] (k_Qs : Ro Iv5) (k_Ps : Ro Jc) (k_All : Int) (sh : Ro Jb) (Q : DS -> Prop) : Prop :=
 Pre True (Pre True (Vif (!decide (Sp.chkP k_Qs.xs k_Ps.xs k_All = Sp.chkP k_Qs.xs k_Ps.xs k_All)) (Q Zbr) (Vif (!decide (Sp.chkI k_Qs.xs k_Ps.xs k_All = Sp.chkI k_Qs.xs k_Ps.xs k_All)) (Q Zbr) (Vif (!decide (Sp.chkE k_Qs.xs k_Ps.xs k_All = Sp.chkE k_Qs.xs k_Ps.xs k_All)) (Q Zbr) (Pre True (Pre True (Pre (Sp.markR k_Qs.xs k_Ps.xs k_All sh.xs = Sp.markR k_Qs.xs k_Ps.xs k_All sh.xs) (Vif true (Vif (Sp.markB k_Qs.xs k_Ps.xs k_All sh.xs == Sp.markB k_Qs.xs k_Ps.xs k_All sh.xs) (Vif (decide (Sp.markE k_Qs.xs k_Ps.xs k_All sh.xs = Sp.markE k_Qs.xs k_Ps.xs k_All sh.xs)) (Pre True (Q [[Cl.b true]])) (Q Zbr)) (Q Zbr)) (Q Zbr)))))))))
theorem Xdh (W : InW) (k_Qs k_Ps k_All sh Q) : Ywr (cxT Try.prog TT TL3 1000 50) 1000 3 [.agg [.rs _ k_Qs, .rs _ k_Ps, .si .i64 k_All], .rs _ sh] [] 0 (Y01 [(false, [.bool])] Q) (fun _ _ _ _ => Stuck 421) = Xr k_Qs k_Ps k_All sh Q := by kernel_rfl
abbrev Xm : List AT := [.agg [.sl Iv5, .sl Jc, .int .i64], .one (.sl Jb)]
theorem Xds {pre : DS -> Prop} {res : DS -> DS} (hyp_ : ∀ (W : InW) (k_Qs : Ro Iv5) (k_Ps : Ro Jc) (k_All : Int) (sh : Ro Jb), pre [[.l k_Qs.xs, .l k_Ps.xs, .i k_All], [.l sh.xs]] -> ∀ Q : DS -> Prop, Q (res [[.l k_Qs.xs, .l k_Ps.xs, .i k_All], [.l sh.xs]]) -> Xr k_Qs k_Ps k_All sh Q) : PureOk Try.prog 3 Xm [(false, [.bool])] pre res :=
 PureOk.of' (fun W => @TT W) (fun W => @Xe W) Xa TL3 1000 50 fun W k_Qs k_Ps k_All sh hp =>
  (Xdh W k_Qs k_Ps k_All sh (fun o => o = res [[.l k_Qs.xs, .l k_Ps.xs, .i k_All], [.l sh.xs]])).mpr (hyp_ W k_Qs k_Ps k_All sh hp _ rfl)
theorem Xhk : PureOk Try.prog 3 Xm [(false, [.bool])] (WfD Xm) fun _ => [[.b true]] :=
 Xds fun W qs ps all sh hp Q h => by unfold Xr;delta Zbr; simp [Vif_iff, Pre_iff, h]
end Go.Proofs.Ytifhdbgciehicaa
namespace Go.Proofs.Ytifhdbgciehicaa.answerMarks
open Go.ChangeShapes Go.WideShapes Go.ChangeAt Go.RowKit
set_option maxRecDepth 100000
theorem own : ownKnob Try.prog.godebug = none := by kernel_rfl
theorem laid : laidOutB Try.prog = true := by kernel_rfl
theorem lifted (os : Os) (started : os.Started) (H : Type) (enc : TypeId × Value -> H) :
  ReturnsInHanded {} Try.checked os 3 .any (Rows.answerMarksSpec.pre6 enc Try.prog Try.f3 Rows.answerMarksRow.domain false) (Rows.answerMarksSpec.post enc Try.prog Try.f3 false true false false) := by
 refine returnsInHanded_of_change (C := Try.checked) own started (by kernel_rfl) Try.func3
  (ChangeSpec.witness6 (enc := enc) (C := Try.checked) false ⟨#[], #[(.agg #[.slice none 0 0, .slice none 0 0, .int .i64 0]), (.slice none 0 0)], []⟩ 8 (by kernel_rfl) (by kernel_rfl) (by kernel_rfl) (by kernel_rfl)) ?_
 intro W base args ds gs before hval hW _ _;exact law_end (f := Try.f3) (s := Rows.answerMarksSpec) (by kernel_rfl) Try.underlying4 (by kernel_rfl) rfl laid (by kernel_rfl)
  (fun ds h => by match ds, (show ds.length = 2 from h) with | [_, _], _ => exact ⟨rfl, rfl, rfl⟩) Xhk hval hW
theorem over : Rows.answerMarksRow.holds Try.pinned (OpenSpec.ofChange Rows.answerMarksSpec) :=
 OpenClaim.holds_of_wide 3 Try.f3 rfl rfl rfl rfl rfl rfl rfl ⟨rfl, rfl, rfl, rfl, rfl⟩ rfl rfl rfl rfl rfl (by kernel_rfl) Try.func3 (by kernel_rfl)
  (of_decide_eq_true (by kernel_rfl)) (by unfold Func.isWrapper; first | (rw [if_pos (by decide +kernel)]; kernel_rfl) | (rw [if_neg (by decide +kernel)]; exact ⟨rfl, rfl⟩))
  (fun os started H enc _ => lifted os started H enc)
theorem proved : Rows.AnswerMarksSaid := over
end Go.Proofs.Ytifhdbgciehicaa.answerMarks

/-
  'AnswerOutcomes': for every input the law returns true, and what is handed in reads as before. No condition.
-/
import Derived.Test.YtifhdbgciehicaaQoud
import Derived.Test.YtifhdbgciehicaaRows
import Derived.WalkKit
import Derived.ProofKit
set_option linter.unusedVariables false
set_option linter.unusedSectionVars false
set_option linter.unusedSimpArgs false
namespace Go.Proofs.Ytifhdbgciehicaa
open Go.RowKit
set_option maxRecDepth 100000
theorem vif_t [InW] {b : Bool} {A B : Prop} (hb : b = true) (ha : A) : Vif b A B := Vif_iff.2 ⟨fun _ => ha, fun h => absurd (hb.symm.trans h) (by decide)⟩
theorem Xll [W : InW] (Q : DS -> Prop) (h : Q [[.b true]]) : Xbj Q := by
 unfold Xbj;delta Zfk Zfg Zfh Zfi Zfj Zfm Zfl Zff Zb
 repeat first | refine vif_t (by kernel_rfl) ?_ | refine Pre_iff.2 ⟨trivial, ?_⟩ | refine Pre_iff.2 ⟨by kernel_rfl, ?_⟩ | refine Pre_iff.2 ⟨⟨by kernel_rfl, by kernel_rfl, by kernel_rfl⟩, ?_⟩
 exact (congrArg Q (by kernel_rfl)).mpr h
noncomputable def Xkp : PC Try.prog := ⟨22, [], [(false, [.bool])], fun _ => True, fun _ => [[.b true]], Xk8 fun W hp Q h => Xll Q h⟩
open Go.RowKit
set_option maxRecDepth 100000
set_option maxHeartbeats 1600000
noncomputable def TL4 : Tab Try.prog := ⟨[Xpu, Xiq, Xpt, Xio, Xcj, Xkp], [], []⟩
def X9 [W : InW] (k_Qs : Ro Iv5) (k_Ps : Ro Jc) (k_All : Int) (sh : Ro Jb) (Q : DS -> Prop) : Prop :=
 Pre True (Pre True (Vif (!decide (Sp.ocA k_Qs.xs k_Ps.xs k_All sh.xs = Sp.ocA k_Qs.xs k_Ps.xs k_All sh.xs)) (Q Zfj) (Vif (!decide (Sp.askE k_Qs.xs k_Ps.xs k_All sh.xs = Sp.askE k_Qs.xs k_Ps.xs k_All sh.xs)) (Q Zfj) (Pre True (Pre True (Pre (Sp.scA k_Qs.xs k_Ps.xs k_All sh.xs = Sp.scA k_Qs.xs k_Ps.xs k_All sh.xs) (Vif true (Vif (decide (Sp.askE k_Qs.xs k_Ps.xs k_All sh.xs = Sp.askE k_Qs.xs k_Ps.xs k_All sh.xs)) (Pre True (Q [[Cl.b true]])) (Q Zfj)) (Q Zfj))))))))
theorem Xh4 (W : InW) (k_Qs k_Ps k_All sh Q) : Ywr (cxT Try.prog TT TL4 1000 50) 1000 4 [.agg [.rs _ k_Qs, .rs _ k_Ps, .si .i64 k_All], .rs _ sh] [] 0 (Y01 [(false, [.bool])] Q) (fun _ _ _ _ => Stuck 421) = X9 k_Qs k_Ps k_All sh Q := by kernel_rfl
abbrev Xr : List AT := [.agg [.sl Iv5, .sl Jc, .int .i64], .one (.sl Jb)]
theorem Xh5 {pre : DS -> Prop} {res : DS -> DS} (hyp_ : ∀ (W : InW) (k_Qs : Ro Iv5) (k_Ps : Ro Jc) (k_All : Int) (sh : Ro Jb), pre [[.l k_Qs.xs, .l k_Ps.xs, .i k_All], [.l sh.xs]] -> ∀ Q : DS -> Prop, Q (res [[.l k_Qs.xs, .l k_Ps.xs, .i k_All], [.l sh.xs]]) -> X9 k_Qs k_Ps k_All sh Q) : PureOk Try.prog 4 Xr [(false, [.bool])] pre res :=
 PureOk.of' (fun W => @TT W) (fun W => @Xe W) Xa TL4 1000 50 fun W k_Qs k_Ps k_All sh hp =>
  (Xh4 W k_Qs k_Ps k_All sh (fun o => o = res [[.l k_Qs.xs, .l k_Ps.xs, .i k_All], [.l sh.xs]])).mpr (hyp_ W k_Qs k_Ps k_All sh hp _ rfl)
theorem Xis : PureOk Try.prog 4 Xr [(false, [.bool])] (WfD Xr) fun _ => [[.b true]] :=
 Xh5 fun W qs ps all sh hp Q h => by unfold X9;delta Zfj; simp [Vif_iff, Pre_iff, h]
end Go.Proofs.Ytifhdbgciehicaa
namespace Go.Proofs.Ytifhdbgciehicaa.answerOutcomes
open Go.ChangeShapes Go.WideShapes Go.ChangeAt Go.RowKit
set_option maxRecDepth 100000
theorem own : ownKnob Try.prog.godebug = none := by kernel_rfl
theorem laid : laidOutB Try.prog = true := by kernel_rfl
theorem lifted (os : Os) (started : os.Started) (H : Type) (enc : TypeId × Value -> H) :
  ReturnsInHanded {} Try.checked os 4 .any (Rows.answerOutcomesSpec.pre6 enc Try.prog Try.f4 Rows.answerOutcomesRow.domain false) (Rows.answerOutcomesSpec.post enc Try.prog Try.f4 false true false false) := by
 refine returnsInHanded_of_change (C := Try.checked) own started (by kernel_rfl) Try.func4
  (ChangeSpec.witness6 (enc := enc) (C := Try.checked) false ⟨#[], #[(.agg #[.slice none 0 0, .slice none 0 0, .int .i64 0]), (.slice none 0 0)], []⟩ 8 (by kernel_rfl) (by kernel_rfl) (by kernel_rfl) (by kernel_rfl)) ?_
 intro W base args ds gs before hval hW _ _;exact law_end (f := Try.f4) (s := Rows.answerOutcomesSpec) (by kernel_rfl) Try.underlying4 (by kernel_rfl) rfl laid (by kernel_rfl)
  (fun ds h => by match ds, (show ds.length = 2 from h) with | [_, _], _ => exact ⟨rfl, rfl, rfl⟩) Xis hval hW
theorem over : Rows.answerOutcomesRow.holds Try.pinned (OpenSpec.ofChange Rows.answerOutcomesSpec) :=
 OpenClaim.holds_of_wide 4 Try.f4 rfl rfl rfl rfl rfl rfl rfl ⟨rfl, rfl, rfl, rfl, rfl⟩ rfl rfl rfl rfl rfl (by kernel_rfl) Try.func4 (by kernel_rfl)
  (of_decide_eq_true (by kernel_rfl)) (by unfold Func.isWrapper; first | (rw [if_pos (by decide +kernel)]; kernel_rfl) | (rw [if_neg (by decide +kernel)]; exact ⟨rfl, rfl⟩))
  (fun os started H enc _ => lifted os started H enc)
theorem proved : Rows.AnswerOutcomesSaid := over
end Go.Proofs.Ytifhdbgciehicaa.answerOutcomes

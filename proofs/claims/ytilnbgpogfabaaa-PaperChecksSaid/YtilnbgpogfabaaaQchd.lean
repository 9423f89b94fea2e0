/-
  'PaperChecks': for every input the law returns true, and what is handed in reads as before. No condition.
-/
import Derived.Test.YtilnbgpogfabaaaQchc
import Derived.Test.YtilnbgpogfabaaaRows
import Derived.WalkKit
import Derived.ProofKit
set_option linter.unusedVariables false
set_option linter.unusedSectionVars false
set_option linter.unusedSimpArgs false
namespace Go.Proofs.Ytilnbgpogfabaaa
open Go.RowKit
set_option maxRecDepth 100000
theorem vif_t [InW] {b : Bool} {A B : Prop} (hb : b = true) (ha : A) : Vif b A B := Vif_iff.2 ⟨fun _ => ha, fun h => absurd (hb.symm.trans h) (by decide)⟩
theorem Xhc [W : InW] (Q : DS -> Prop) (h : Q [[.b true]]) : Xy Q := by
 unfold Xy;delta Zbx Zby Zca Zbz Zbw Zbv Zcb Zk
 repeat first | refine vif_t (by kernel_rfl) ?_ | refine Pre_iff.2 ⟨trivial, ?_⟩ | refine Pre_iff.2 ⟨by kernel_rfl, ?_⟩
 exact (congrArg Q (by kernel_rfl)).mpr h
noncomputable def Xgx : PC Try.prog := ⟨23, [], [(false, [.bool])], fun _ => True, fun _ => [[.b true]], Xg4 fun W hp Q h => Xhc Q h⟩
namespace Sp
theorem eqI_refl (a : Dt) : eqI a a = true := eqI_iff.2 rfl
theorem eqL_refl (a : Dt) : eqL a a = true := by
 unfold eqL;rw [decide_eq_true rfl, Bool.true_and];exact allF_iff.2 fun k _ _ => eqI_refl _
end Sp
set_option maxHeartbeats 1600000
noncomputable def TL3 : Tab Try.prog := ⟨[X2, X3, Xfo, Xix, Xce, Xfp, Xiy, Xgx], [], []⟩
def Xcu [W : InW] (kQ : Ro Ja) (k_Ws : Ro Jb) (k_Lo k_Hi : Int) (Q : DS -> Prop) : Prop :=
 Pre True (Pre True (Vif (!decide (Sp.chkP kQ.xs k_Ws.xs k_Lo k_Hi = Sp.chkP kQ.xs k_Ws.xs k_Lo k_Hi)) (Q Zby) (Vif (!decide (Sp.chkI kQ.xs k_Ws.xs k_Lo k_Hi = Sp.chkI kQ.xs k_Ws.xs k_Lo k_Hi)) (Q Zby) (Vif (!decide (Sp.chkE kQ.xs k_Ws.xs k_Lo k_Hi = Sp.chkE kQ.xs k_Ws.xs k_Lo k_Hi)) (Q Zby) (Pre True (Pre True (Pre True (Vif (!Sp.eqI (Sp.wtsR kQ.xs k_Ws.xs k_Lo k_Hi) (Sp.wtsR kQ.xs k_Ws.xs k_Lo k_Hi)) (Q Zby) (Vif (!decide (Sp.chkE kQ.xs k_Ws.xs k_Lo k_Hi = Sp.chkE kQ.xs k_Ws.xs k_Lo k_Hi)) (Q Zby) (Pre True (Pre True (Vif (decide (Sp.cntR kQ.xs k_Ws.xs k_Lo k_Hi = Sp.cntR kQ.xs k_Ws.xs k_Lo k_Hi)) (Vif (decide (Sp.chkE kQ.xs k_Ws.xs k_Lo k_Hi = Sp.chkE kQ.xs k_Ws.xs k_Lo k_Hi)) (Pre True (Q [[Cl.b true]])) (Q Zby)) (Q Zby)))))))))))))
theorem Xis (W : InW) (kQ k_Ws k_Lo k_Hi Q) : Yw5 (cxT Try.prog TT TL3 1000 50) 1000 3 [.agg [.rs _ kQ, .rs _ k_Ws, .si .i64 k_Lo, .si .i64 k_Hi]] [] 0 (Y1i [(false, [.bool])] Q) (fun _ _ _ _ => Stuck 421) = Xcu kQ k_Ws k_Lo k_Hi Q := by kernel_rfl
abbrev Xbt : List AT := [.agg [.sl Ja, .sl Jb, .int .i64, .int .i64]]
theorem Xj3 {pre : DS -> Prop} {res : DS -> DS} (hyp_ : ∀ (W : InW) (kQ : Ro Ja) (k_Ws : Ro Jb) (k_Lo k_Hi : Int), pre [[.l kQ.xs, .l k_Ws.xs, .i k_Lo, .i k_Hi]] -> ∀ Q : DS -> Prop, Q (res [[.l kQ.xs, .l k_Ws.xs, .i k_Lo, .i k_Hi]]) -> Xcu kQ k_Ws k_Lo k_Hi Q) : PureOk Try.prog 3 Xbt [(false, [.bool])] pre res :=
 PureOk.of' (fun W => @TT W) (fun W => @Xb W) Xa TL3 1000 50 fun W kQ k_Ws k_Lo k_Hi hp =>
  (Xis W kQ k_Ws k_Lo k_Hi (fun o => o = res [[.l kQ.xs, .l k_Ws.xs, .i k_Lo, .i k_Hi]])).mpr (hyp_ W kQ k_Ws k_Lo k_Hi hp _ rfl)
theorem Xfz : PureOk Try.prog 3 Xbt [(false, [.bool])] (WfD Xbt) fun _ => [[.b true]] :=
 Xj3 fun W qs ws lo hi hp Q h => by
  unfold Xcu;delta Zby;simp [Vif_iff, Pre_iff, h, Sp.eqI_refl, Sp.eqL_refl]
end Go.Proofs.Ytilnbgpogfabaaa
namespace Go.Proofs.Ytilnbgpogfabaaa.paperChecks
open Go.ChangeShapes Go.WideShapes Go.ChangeAt Go.RowKit
set_option maxRecDepth 100000
theorem own : ownKnob Try.prog.godebug = none := by kernel_rfl
theorem laid : laidOutB Try.prog = true := by kernel_rfl
theorem lifted (os : Os) (started : os.Started) (H : Type) (enc : TypeId × Value -> H) :
  ReturnsInHanded {} Try.checked os 3 .any (Rows.paperChecksSpec.pre6 enc Try.prog Try.f3 Rows.paperChecksRow.domain false) (Rows.paperChecksSpec.post enc Try.prog Try.f3 false true false false) := by
 refine returnsInHanded_of_change (C := Try.checked) own started (by kernel_rfl) Try.func3
  (ChangeSpec.witness6 (enc := enc) (C := Try.checked) false ⟨#[], #[(.agg #[.slice none 0 0, .slice none 0 0, .int .i64 0, .int .i64 0])], []⟩ 8 (by kernel_rfl) (by kernel_rfl) (by kernel_rfl) (by kernel_rfl)) ?_
 intro W base args ds gs before hval hW _ _;exact law_end (f := Try.f3) (s := Rows.paperChecksSpec) (by kernel_rfl) Try.underlying4 (by kernel_rfl) rfl laid (by kernel_rfl)
  (fun ds h => by match ds, (show ds.length = 1 from h) with | [_], _ => exact ⟨rfl, rfl, rfl⟩) Xfz hval hW
theorem over : Rows.paperChecksRow.holds Try.pinned (OpenSpec.ofChange Rows.paperChecksSpec) :=
 OpenClaim.holds_of_wide 3 Try.f3 rfl rfl rfl rfl rfl rfl rfl ⟨rfl, rfl, rfl, rfl, rfl⟩ rfl rfl rfl rfl rfl (by kernel_rfl) Try.func3 (by kernel_rfl)
  (of_decide_eq_true (by kernel_rfl)) (by unfold Func.isWrapper; first | (rw [if_pos (by decide +kernel)]; kernel_rfl) | (rw [if_neg (by decide +kernel)]; exact ⟨rfl, rfl⟩))
  (fun os started H enc _ => lifted os started H enc)
theorem proved : Rows.PaperChecksSaid := over
end Go.Proofs.Ytilnbgpogfabaaa.paperChecks

/-
  'PaperAccepts': for every input the law returns true, and what is handed in reads as before. No condition.
-/
import Derived.Test.YtilnbgpogfabaaaQacc
import Derived.Test.YtilnbgpogfabaaaRows
import Derived.WalkKit
import Derived.ProofKit
set_option linter.unusedVariables false
set_option linter.unusedSectionVars false
set_option linter.unusedSimpArgs false
namespace Go.Proofs.Ytilnbgpogfabaaa
open Go.RowKit
set_option maxRecDepth 100000
theorem vif_t [InW] {b : Bool} {A B : Prop} (hb : b = true) (ha : A) : Vif b A B := Vif_iff.2 ⟨fun _ => ha, fun h => absurd (hb.symm.trans h) (by decide)⟩
theorem Xg8 [W : InW] (Q : DS -> Prop) (h : Q [[.b true]]) : Xx Q := by
 unfold Xx;delta Zbv Zbw Zby Zbx Zbu Zbt Zbz Zk
 repeat first | refine vif_t (by kernel_rfl) ?_ | refine Pre_iff.2 ⟨trivial, ?_⟩ | refine Pre_iff.2 ⟨by kernel_rfl, ?_⟩
 exact (congrArg Q (by kernel_rfl)).mpr h
noncomputable def Xgs : PC Try.prog := ⟨23, [], [(false, [.bool])], fun _ => True, fun _ => [[.b true]], Xgz fun W hp Q h => Xg8 Q h⟩
namespace Sp
theorem eqI_refl (a : Dt) : eqI a a = true := eqI_iff.2 rfl
theorem eqL_refl (a : Dt) : eqL a a = true := by
 unfold eqL;rw [decide_eq_true rfl, Bool.true_and];exact allF_iff.2 fun k _ _ => eqI_refl _
end Sp
set_option maxHeartbeats 1600000
noncomputable def TL6 : Tab Try.prog := ⟨[Xfe, Xip, Xgs], [], []⟩
def Xcl [W : InW] (kQ : Ro Ja) (k_Ws : Ro Jb) (k_Lo k_Hi h_Rows h_Seats h_Com : Int) (ps : Ro Jc) (Q : DS -> Prop) : Prop :=
 Pre True (Pre True (Vif (decide (Sp.accI kQ.xs k_Ws.xs k_Lo k_Hi h_Rows h_Seats h_Com ps.xs = Sp.accI kQ.xs k_Ws.xs k_Lo k_Hi h_Rows h_Seats h_Com ps.xs)) (Vif (decide (Sp.accE kQ.xs k_Ws.xs k_Lo k_Hi h_Rows h_Seats h_Com ps.xs = Sp.accE kQ.xs k_Ws.xs k_Lo k_Hi h_Rows h_Seats h_Com ps.xs)) (Pre True (Q [[Cl.b true]])) (Q Zbw)) (Q Zbw)))
theorem Xik (W : InW) (kQ k_Ws k_Lo k_Hi h_Rows h_Seats h_Com ps Q) : Yw5 (cxT Try.prog TT TL6 1000 50) 1000 6 [.agg [.rs _ kQ, .rs _ k_Ws, .si .i64 k_Lo, .si .i64 k_Hi], .agg [.si .i64 h_Rows, .si .i64 h_Seats, .si .i64 h_Com], .rs _ ps] [] 0 (Y1i [(false, [.bool])] Q) (fun _ _ _ _ => Stuck 421) = Xcl kQ k_Ws k_Lo k_Hi h_Rows h_Seats h_Com ps Q := by kernel_rfl
abbrev Xbm : List AT := [.agg [.sl Ja, .sl Jb, .int .i64, .int .i64], .agg [.int .i64, .int .i64, .int .i64], .one (.sl Jc)]
theorem Xju {pre : DS -> Prop} {res : DS -> DS} (hyp_ : ∀ (W : InW) (kQ : Ro Ja) (k_Ws : Ro Jb) (k_Lo k_Hi h_Rows h_Seats h_Com : Int) (ps : Ro Jc), pre [[.l kQ.xs, .l k_Ws.xs, .i k_Lo, .i k_Hi], [.i h_Rows, .i h_Seats, .i h_Com], [.l ps.xs]] -> ∀ Q : DS -> Prop, Q (res [[.l kQ.xs, .l k_Ws.xs, .i k_Lo, .i k_Hi], [.i h_Rows, .i h_Seats, .i h_Com], [.l ps.xs]]) -> Xcl kQ k_Ws k_Lo k_Hi h_Rows h_Seats h_Com ps Q) : PureOk Try.prog 6 Xbm [(false, [.bool])] pre res :=
 PureOk.of' (fun W => @TT W) (fun W => @Xb W) Xa TL6 1000 50 fun W kQ k_Ws k_Lo k_Hi h_Rows h_Seats h_Com ps hp =>
  (Xik W kQ k_Ws k_Lo k_Hi h_Rows h_Seats h_Com ps (fun o => o = res [[.l kQ.xs, .l k_Ws.xs, .i k_Lo, .i k_Hi], [.i h_Rows, .i h_Seats, .i h_Com], [.l ps.xs]])).mpr (hyp_ W kQ k_Ws k_Lo k_Hi h_Rows h_Seats h_Com ps hp _ rfl)
theorem Xfq : PureOk Try.prog 6 Xbm [(false, [.bool])] (WfD Xbm) fun _ => [[.b true]] :=
 Xju fun W qs ws lo hi r S c ps hp Q h => by
  unfold Xcl;delta Zbw;simp [Vif_iff, Pre_iff, h, Sp.eqI_refl, Sp.eqL_refl]
end Go.Proofs.Ytilnbgpogfabaaa
namespace Go.Proofs.Ytilnbgpogfabaaa.paperAccepts
open Go.ChangeShapes Go.WideShapes Go.ChangeAt Go.RowKit
set_option maxRecDepth 100000
theorem own : ownKnob Try.prog.godebug = none := by kernel_rfl
theorem laid : laidOutB Try.prog = true := by kernel_rfl
theorem lifted (os : Os) (started : os.Started) (H : Type) (enc : TypeId × Value -> H) :
  ReturnsInHanded {} Try.checked os 6 .any (Rows.paperAcceptsSpec.pre6 enc Try.prog Try.f6 Rows.paperAcceptsRow.domain false) (Rows.paperAcceptsSpec.post enc Try.prog Try.f6 false true false false) := by
 refine returnsInHanded_of_change (C := Try.checked) own started (by kernel_rfl) Try.func6
  (ChangeSpec.witness6 (enc := enc) (C := Try.checked) false ⟨#[], #[(.agg #[.slice none 0 0, .slice none 0 0, .int .i64 0, .int .i64 0]), (.agg #[.int .i64 0, .int .i64 0, .int .i64 0]), (.slice none 0 0)], []⟩ 8 (by kernel_rfl) (by kernel_rfl) (by kernel_rfl) (by kernel_rfl)) ?_
 intro W base args ds gs before hval hW _ _;exact law_end (f := Try.f6) (s := Rows.paperAcceptsSpec) (by kernel_rfl) Try.underlying4 (by kernel_rfl) rfl laid (by kernel_rfl)
  (fun ds h => by match ds, (show ds.length = 3 from h) with | [_, _, _], _ => exact ⟨rfl, rfl, rfl⟩) Xfq hval hW
theorem over : Rows.paperAcceptsRow.holds Try.pinned (OpenSpec.ofChange Rows.paperAcceptsSpec) :=
 OpenClaim.holds_of_wide 6 Try.f6 rfl rfl rfl rfl rfl rfl rfl ⟨rfl, rfl, rfl, rfl, rfl⟩ rfl rfl rfl rfl rfl (by kernel_rfl) Try.func6 (by kernel_rfl)
  (of_decide_eq_true (by kernel_rfl)) (by unfold Func.isWrapper; first | (rw [if_pos (by decide +kernel)]; kernel_rfl) | (rw [if_neg (by decide +kernel)]; exact ⟨rfl, rfl⟩))
  (fun os started H enc _ => lifted os started H enc)
theorem proved : Rows.PaperAcceptsSaid := over
end Go.Proofs.Ytilnbgpogfabaaa.paperAccepts

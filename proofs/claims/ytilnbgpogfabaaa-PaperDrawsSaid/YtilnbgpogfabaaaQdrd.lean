/-
  'PaperDraws': for every input the law returns true, and what is handed in reads as before. No condition.
-/
import Derived.Test.YtilnbgpogfabaaaQdrc
import Derived.Test.YtilnbgpogfabaaaRows
import Derived.WalkKit
import Derived.ProofKit
set_option linter.unusedVariables false
set_option linter.unusedSectionVars false
set_option linter.unusedSimpArgs false
namespace Go.Proofs.Ytilnbgpogfabaaa
open Go.RowKit
set_option maxRecDepth 100000
theorem vif_t [InW] {b : Bool} {A B : Prop} (hb : b = true) (ha : A) : Vif b A B := Vif_iff.2 ⟨fun _ => ha, fun h => absurd (hb.symm.trans h) (by decide)⟩
theorem Xh5 [W : InW] (Q : DS -> Prop) (h : Q [[.b true]]) : Xx Q := by
 unfold Xx;delta Zbx Zby Zca Zbz Zbw Zbv Zcb Zk
 repeat first | refine vif_t (by kernel_rfl) ?_ | refine Pre_iff.2 ⟨trivial, ?_⟩ | refine Pre_iff.2 ⟨by kernel_rfl, ?_⟩
 exact (congrArg Q (by kernel_rfl)).mpr h
noncomputable def Xhj : PC Try.prog := ⟨23, [], [(false, [.bool])], fun _ => True, fun _ => [[.b true]], Xhr fun W hp Q h => Xh5 Q h⟩
namespace Sp
theorem eqI_refl (a : Dt) : eqI a a = true := eqI_iff.2 rfl
theorem eqL_refl (a : Dt) : eqL a a = true := by
 unfold eqL;rw [decide_eq_true rfl, Bool.true_and];exact allF_iff.2 fun k _ _ => eqI_refl _
end Sp
set_option maxHeartbeats 1600000
noncomputable def TL5 : Tab Try.prog := ⟨[Xeg, Xhh, Xii, Xhj], [], []⟩
def Xcx [W : InW] (kQ : Ro Ja) (k_Ws : Ro Jb) (k_Lo k_Hi h_Rows h_Seats h_Com : Int) (nums : Ro Jb) (Q : DS -> Prop) : Prop :=
 Pre True (Pre True (Pre True (Vif (Sp.eqL (Sp.drawL kQ.xs k_Ws.xs k_Lo k_Hi h_Rows h_Seats h_Com nums.xs) (Sp.drawL kQ.xs k_Ws.xs k_Lo k_Hi h_Rows h_Seats h_Com nums.xs)) (Vif (decide (Sp.drawE kQ.xs k_Ws.xs k_Lo k_Hi h_Rows h_Seats h_Com nums.xs = Sp.drawE kQ.xs k_Ws.xs k_Lo k_Hi h_Rows h_Seats h_Com nums.xs)) (Pre True (Q [[Cl.b true]])) (Q Zby)) (Q Zby))))
theorem Xjj (W : InW) (kQ k_Ws k_Lo k_Hi h_Rows h_Seats h_Com nums Q) : Yw5 (cxT Try.prog TT TL5 1000 50) 1000 5 [.agg [.rs _ kQ, .rs _ k_Ws, .si .i64 k_Lo, .si .i64 k_Hi], .agg [.si .i64 h_Rows, .si .i64 h_Seats, .si .i64 h_Com], .rs _ nums] [] 0 (Y1i [(false, [.bool])] Q) (fun _ _ _ _ => Stuck 421) = Xcx kQ k_Ws k_Lo k_Hi h_Rows h_Seats h_Com nums Q := by kernel_rfl
abbrev Xbq : List AT := [.agg [.sl Ja, .sl Jb, .int .i64, .int .i64], .agg [.int .i64, .int .i64, .int .i64], .one (.sl Jb)]
theorem Xku {pre : DS -> Prop} {res : DS -> DS} (hyp_ : ∀ (W : InW) (kQ : Ro Ja) (k_Ws : Ro Jb) (k_Lo k_Hi h_Rows h_Seats h_Com : Int) (nums : Ro Jb), pre [[.l kQ.xs, .l k_Ws.xs, .i k_Lo, .i k_Hi], [.i h_Rows, .i h_Seats, .i h_Com], [.l nums.xs]] -> ∀ Q : DS -> Prop, Q (res [[.l kQ.xs, .l k_Ws.xs, .i k_Lo, .i k_Hi], [.i h_Rows, .i h_Seats, .i h_Com], [.l nums.xs]]) -> Xcx kQ k_Ws k_Lo k_Hi h_Rows h_Seats h_Com nums Q) : PureOk Try.prog 5 Xbq [(false, [.bool])] pre res :=
 PureOk.of' (fun W => @TT W) (fun W => @Xb W) Xa TL5 1000 50 fun W kQ k_Ws k_Lo k_Hi h_Rows h_Seats h_Com nums hp =>
  (Xjj W kQ k_Ws k_Lo k_Hi h_Rows h_Seats h_Com nums (fun o => o = res [[.l kQ.xs, .l k_Ws.xs, .i k_Lo, .i k_Hi], [.i h_Rows, .i h_Seats, .i h_Com], [.l nums.xs]])).mpr (hyp_ W kQ k_Ws k_Lo k_Hi h_Rows h_Seats h_Com nums hp _ rfl)
theorem Xf5 : PureOk Try.prog 5 Xbq [(false, [.bool])] (WfD Xbq) fun _ => [[.b true]] :=
 Xku fun W qs ws lo hi r S c nums hp Q h => by
  unfold Xcx;delta Zby;simp [Vif_iff, Pre_iff, h, Sp.eqI_refl, Sp.eqL_refl]
end Go.Proofs.Ytilnbgpogfabaaa
namespace Go.Proofs.Ytilnbgpogfabaaa.paperDraws
open Go.ChangeShapes Go.WideShapes Go.ChangeAt Go.RowKit
set_option maxRecDepth 100000
theorem own : ownKnob Try.prog.godebug = none := by kernel_rfl
theorem laid : laidOutB Try.prog = true := by kernel_rfl
theorem lifted (os : Os) (started : os.Started) (H : Type) (enc : TypeId × Value -> H) :
  ReturnsInHanded {} Try.checked os 5 .any (Rows.paperDrawsSpec.pre6 enc Try.prog Try.f5 Rows.paperDrawsRow.domain false) (Rows.paperDrawsSpec.post enc Try.prog Try.f5 false true false false) := by
 refine returnsInHanded_of_change (C := Try.checked) own started (by kernel_rfl) Try.func5
  (ChangeSpec.witness6 (enc := enc) (C := Try.checked) false ⟨#[], #[(.agg #[.slice none 0 0, .slice none 0 0, .int .i64 0, .int .i64 0]), (.agg #[.int .i64 0, .int .i64 0, .int .i64 0]), (.slice none 0 0)], []⟩ 8 (by kernel_rfl) (by kernel_rfl) (by kernel_rfl) (by kernel_rfl)) ?_
 intro W base args ds gs before hval hW _ _;exact law_end (f := Try.f5) (s := Rows.paperDrawsSpec) (by kernel_rfl) Try.underlying4 (by kernel_rfl) rfl laid (by kernel_rfl)
  (fun ds h => by match ds, (show ds.length = 3 from h) with | [_, _, _], _ => exact ⟨rfl, rfl, rfl⟩) Xf5 hval hW
theorem over : Rows.paperDrawsRow.holds Try.pinned (OpenSpec.ofChange Rows.paperDrawsSpec) :=
 OpenClaim.holds_of_wide 5 Try.f5 rfl rfl rfl rfl rfl rfl rfl ⟨rfl, rfl, rfl, rfl, rfl⟩ rfl rfl rfl rfl rfl (by kernel_rfl) Try.func5 (by kernel_rfl)
  (of_decide_eq_true (by kernel_rfl)) (by unfold Func.isWrapper; first | (rw [if_pos (by decide +kernel)]; kernel_rfl) | (rw [if_neg (by decide +kernel)]; exact ⟨rfl, rfl⟩))
  (fun os started H enc _ => lifted os started H enc)
theorem proved : Rows.PaperDrawsSaid := over
end Go.Proofs.Ytilnbgpogfabaaa.paperDraws

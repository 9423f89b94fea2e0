/-
  'PaperNumbers': for every input the law returns true, and what is handed in reads as before. No condition.
-/
import Derived.Test.YtilnbgpogfabaaaQnuc
import Derived.Test.YtilnbgpogfabaaaRows
import Derived.WalkKit
import Derived.ProofKit
set_option linter.unusedVariables false
set_option linter.unusedSectionVars false
set_option linter.unusedSimpArgs false
namespace Go.Proofs.Ytilnbgpogfabaaa
open Go.RowKit
set_option maxRecDepth 100000
theorem vif_t [InW] {b : Bool} {A B : Prop} (hb : b = true) (ha : A) : Vif b A B := Vif_iff.2 ⟨fun _ => ha, fun h => absurd (hb.symm.trans h) (by decide)⟩
theorem Xia [W : InW] (Q : DS -> Prop) (h : Q [[.b true]]) : X0 Q := by
 unfold X0;delta Zca Zcb Zcd Zcc Zbz Zby Zce Zk
 repeat first | refine vif_t (by kernel_rfl) ?_ | refine Pre_iff.2 ⟨trivial, ?_⟩ | refine Pre_iff.2 ⟨by kernel_rfl, ?_⟩
 exact (congrArg Q (by kernel_rfl)).mpr h
noncomputable def Xhs : PC Try.prog := ⟨23, [], [(false, [.bool])], fun _ => True, fun _ => [[.b true]], Xh0 fun W hp Q h => Xia Q h⟩
namespace Sp
theorem eqI_refl (a : Dt) : eqI a a = true := eqI_iff.2 rfl
theorem eqL_refl (a : Dt) : eqL a a = true := by
 unfold eqL;rw [decide_eq_true rfl, Bool.true_and];exact allF_iff.2 fun k _ _ => eqI_refl _
end Sp
set_option maxHeartbeats 1600000
noncomputable def TL4 : Tab Try.prog := ⟨[Xgb, Xj1, Xbk, Xga, Xj0, Xeq, Xhp, Xhs], [], []⟩
def Xc2 [W : InW] (kQ : Ro Ja) (k_Ws : Ro Jb) (k_Lo k_Hi n : Int) (l : Ro Jb) (Q : DS -> Prop) : Prop :=
 Pre True (Pre True (Pre True (Vif (!Sp.eqI (Sp.nthR kQ.xs k_Ws.xs k_Lo k_Hi n) (Sp.nthR kQ.xs k_Ws.xs k_Lo k_Hi n)) (Q Zcb) (Vif (!decide (Sp.nthE kQ.xs k_Ws.xs k_Lo k_Hi n = Sp.nthE kQ.xs k_Ws.xs k_Lo k_Hi n)) (Q Zcb) (Pre True (Pre True (Vif (!decide (Sp.numR kQ.xs k_Ws.xs k_Lo k_Hi l.xs = Sp.numR kQ.xs k_Ws.xs k_Lo k_Hi l.xs)) (Q Zcb) (Vif (!decide (Sp.numE kQ.xs k_Ws.xs k_Lo k_Hi l.xs = Sp.numE kQ.xs k_Ws.xs k_Lo k_Hi l.xs)) (Q Zcb) (Pre True (Pre True (Vif (decide ((Sp.fairR kQ.xs k_Ws.xs k_Lo k_Hi n).lo = (Sp.fairR kQ.xs k_Ws.xs k_Lo k_Hi n).lo) && (decide ((Sp.fairR kQ.xs k_Ws.xs k_Lo k_Hi n).hi = (Sp.fairR kQ.xs k_Ws.xs k_Lo k_Hi n).hi) && true)) (Vif (decide (Sp.fairE kQ.xs k_Ws.xs k_Lo k_Hi n = Sp.fairE kQ.xs k_Ws.xs k_Lo k_Hi n)) (Pre True (Q [[Cl.b true]])) (Q Zcb)) (Q Zcb))))))))))))
theorem Xjv (W : InW) (kQ k_Ws k_Lo k_Hi n l Q) : Yw5 (cxT Try.prog TT TL4 1000 50) 1000 4 [.agg [.rs _ kQ, .rs _ k_Ws, .si .i64 k_Lo, .si .i64 k_Hi], .si .i64 n, .rs _ l] [] 0 (Y1i [(false, [.bool])] Q) (fun _ _ _ _ => Stuck 421) = Xc2 kQ k_Ws k_Lo k_Hi n l Q := by kernel_rfl
abbrev Xbw : List AT := [.agg [.sl Ja, .sl Jb, .int .i64, .int .i64], .one (.int .i64), .one (.sl Jb)]
theorem Xlc {pre : DS -> Prop} {res : DS -> DS} (hyp_ : ∀ (W : InW) (kQ : Ro Ja) (k_Ws : Ro Jb) (k_Lo k_Hi n : Int) (l : Ro Jb), pre [[.l kQ.xs, .l k_Ws.xs, .i k_Lo, .i k_Hi], [.i n], [.l l.xs]] -> ∀ Q : DS -> Prop, Q (res [[.l kQ.xs, .l k_Ws.xs, .i k_Lo, .i k_Hi], [.i n], [.l l.xs]]) -> Xc2 kQ k_Ws k_Lo k_Hi n l Q) : PureOk Try.prog 4 Xbw [(false, [.bool])] pre res :=
 PureOk.of' (fun W => @TT W) (fun W => @Xb W) Xa TL4 1000 50 fun W kQ k_Ws k_Lo k_Hi n l hp =>
  (Xjv W kQ k_Ws k_Lo k_Hi n l (fun o => o = res [[.l kQ.xs, .l k_Ws.xs, .i k_Lo, .i k_Hi], [.i n], [.l l.xs]])).mpr (hyp_ W kQ k_Ws k_Lo k_Hi n l hp _ rfl)
theorem Xgn : PureOk Try.prog 4 Xbw [(false, [.bool])] (WfD Xbw) fun _ => [[.b true]] :=
 Xlc fun W qs ws lo hi n l hp Q h => by
  unfold Xc2;delta Zcb;simp [Vif_iff, Pre_iff, h, Sp.eqI_refl, Sp.eqL_refl]
end Go.Proofs.Ytilnbgpogfabaaa
namespace Go.Proofs.Ytilnbgpogfabaaa.paperNumbers
open Go.ChangeShapes Go.WideShapes Go.ChangeAt Go.RowKit
set_option maxRecDepth 100000
theorem own : ownKnob Try.prog.godebug = none := by kernel_rfl
theorem laid : laidOutB Try.prog = true := by kernel_rfl
theorem lifted (os : Os) (started : os.Started) (H : Type) (enc : TypeId × Value -> H) :
  ReturnsInHanded {} Try.checked os 4 .any (Rows.paperNumbersSpec.pre6 enc Try.prog Try.f4 Rows.paperNumbersRow.domain false) (Rows.paperNumbersSpec.post enc Try.prog Try.f4 false true false false) := by
 refine returnsInHanded_of_change (C := Try.checked) own started (by kernel_rfl) Try.func4
  (ChangeSpec.witness6 (enc := enc) (C := Try.checked) false ⟨#[], #[(.agg #[.slice none 0 0, .slice none 0 0, .int .i64 0, .int .i64 0]), (.int .i64 0), (.slice none 0 0)], []⟩ 8 (by kernel_rfl) (by kernel_rfl) (by kernel_rfl) (by kernel_rfl)) ?_
 intro W base args ds gs before hval hW _ _;exact law_end (f := Try.f4) (s := Rows.paperNumbersSpec) (by kernel_rfl) Try.underlying4 (by kernel_rfl) rfl laid (by kernel_rfl)
  (fun ds h => by match ds, (show ds.length = 3 from h) with | [_, _, _], _ => exact ⟨rfl, rfl, rfl⟩) Xgn hval hW
theorem over : Rows.paperNumbersRow.holds Try.pinned (OpenSpec.ofChange Rows.paperNumbersSpec) :=
 OpenClaim.holds_of_wide 4 Try.f4 rfl rfl rfl rfl rfl rfl rfl ⟨rfl, rfl, rfl, rfl, rfl⟩ rfl rfl rfl rfl rfl (by kernel_rfl) Try.func4 (by kernel_rfl)
  (of_decide_eq_true (by kernel_rfl)) (by unfold Func.isWrapper; first | (rw [if_pos (by decide +kernel)]; kernel_rfl) | (rw [if_neg (by decide +kernel)]; exact ⟨rfl, rfl⟩))
  (fun os started H enc _ => lifted os started H enc)
theorem proved : Rows.PaperNumbersSaid := over
end Go.Proofs.Ytilnbgpogfabaaa.paperNumbers

/-
  'AnswerStrikes': for every input the law returns true, and what is handed in reads as before. No condition.
-/
import Derived.Test.YtifhdbgciehicaaQstd
import Derived.Test.YtifhdbgciehicaaRows
import Derived.WalkKit
import Derived.ProofKit
set_option linter.unusedVariables false
set_option linter.unusedSectionVars false
set_option linter.unusedSimpArgs false
namespace Go.Proofs.Ytifhdbgciehicaa
open Go.RowKit
set_option maxRecDepth 100000
theorem vif_t [InW] {b : Bool} {A B : Prop} (hb : b = true) (ha : A) : Vif b A B := Vif_iff.2 ⟨fun _ => ha, fun h => absurd (hb.symm.trans h) (by decide)⟩
theorem Xkl [W : InW] (Q : DS -> Prop) (h : Q [[.b true]]) : Xbe Q := by
 unfold Xbe;delta Zfn Zfj Zfk Zfl Zfm Zfp Zfo Zfi Zb
 repeat first | refine vif_t (by kernel_rfl) ?_ | refine Pre_iff.2 ⟨trivial, ?_⟩ | refine Pre_iff.2 ⟨by kernel_rfl, ?_⟩ | refine Pre_iff.2 ⟨⟨by kernel_rfl, by kernel_rfl, by kernel_rfl⟩, ?_⟩
 exact (congrArg Q (by kernel_rfl)).mpr h
noncomputable def Xjq : PC Try.prog := ⟨22, [], [(false, [.bool])], fun _ => True, fun _ => [[.b true]], Xj6 fun W hp Q h => Xkl Q h⟩
open Go.RowKit
set_option maxRecDepth 100000
set_option maxHeartbeats 1600000
noncomputable def TL6 : Tab Try.prog := ⟨[Xcy, Xz, Xoo, Xhm, Xho, Xfn, Xjq], [], []⟩
def Zfq [W : InW] (k_Qs : Ro Iv5) (k_Ps : Ro Jc) (k_All i : Int) := [[Cl.l k_Qs.xs, Cl.l k_Ps.xs, Cl.i k_All], [Cl.i i]]
def Xbv [W : InW] (k_Qs : Ro Iv5) (k_Ps : Ro Jc) (k_All i : Int) (pz : Ro [.sl Jb]) (Q : DS -> Prop) : Prop :=
 Pre True (Pre True (Pre ((match List.headD (Xz.res (Zfq k_Qs k_Ps k_All i)) [], Cl.z with | [], fallback => fallback | a :: tail, x => a).lst = (match List.headD (Xcy.res (Zfq k_Qs k_Ps k_All i)) [], Cl.z with | [], fallback => fallback | a :: tail, x => a).lst /\ (match (List.headD (Xz.res (Zfq k_Qs k_Ps k_All i)) []).tail, Cl.z with | [], fallback => fallback | a :: tail, x => a).lst = (match (List.headD (Xcy.res (Zfq k_Qs k_Ps k_All i)) []).tail, Cl.z with | [], fallback => fallback | a :: tail, x => a).lst /\ (match (List.headD (Xz.res (Zfq k_Qs k_Ps k_All i)) []).tail.tail, Cl.z with | [], fallback => fallback | a :: tail, x => a).int = (match (List.headD (Xcy.res (Zfq k_Qs k_Ps k_All i)) []).tail.tail, Cl.z with | [], fallback => fallback | a :: tail, x => a).int) (Vif (!true) (Q Zfm) (Vif (!decide (Sp.strE k_Qs.xs k_Ps.xs k_All i = Sp.strE k_Qs.xs k_Ps.xs k_All i)) (Q Zfm) (Pre True (Pre True (Pre (Sp.misV k_Qs.xs k_Ps.xs k_All pz.xs = Sp.misV k_Qs.xs k_Ps.xs k_All pz.xs) (Vif true (Vif (decide (Sp.misE k_Qs.xs k_Ps.xs k_All pz.xs = Sp.misE k_Qs.xs k_Ps.xs k_All pz.xs)) (Pre True (Q [[Cl.b true]])) (Q Zfm)) (Q Zfm)))))))))
theorem Xha (W : InW) (k_Qs k_Ps k_All i pz Q) : Ywr (cxT Try.prog TT TL6 1000 50) 1000 6 [.agg [.rs _ k_Qs, .rs _ k_Ps, .si .i64 k_All], .si .i64 i, .rs _ pz] [] 0 (Y01 [(false, [.bool])] Q) (fun _ _ _ _ => Stuck 421) = Xbv k_Qs k_Ps k_All i pz Q := by kernel_rfl
abbrev X4 : List AT := [.agg [.sl Iv5, .sl Jc, .int .i64], .one (.int .i64), .one (.sl [.sl Jb])]
theorem Xhw {pre : DS -> Prop} {res : DS -> DS} (hyp_ : ∀ (W : InW) (k_Qs : Ro Iv5) (k_Ps : Ro Jc) (k_All i : Int) (pz : Ro [.sl Jb]), pre [[.l k_Qs.xs, .l k_Ps.xs, .i k_All], [.i i], [.l pz.xs]] -> ∀ Q : DS -> Prop, Q (res [[.l k_Qs.xs, .l k_Ps.xs, .i k_All], [.i i], [.l pz.xs]]) -> Xbv k_Qs k_Ps k_All i pz Q) : PureOk Try.prog 6 X4 [(false, [.bool])] pre res :=
 PureOk.of' (fun W => @TT W) (fun W => @Xe W) Xa TL6 1000 50 fun W k_Qs k_Ps k_All i pz hp =>
  (Xha W k_Qs k_Ps k_All i pz (fun o => o = res [[.l k_Qs.xs, .l k_Ps.xs, .i k_All], [.i i], [.l pz.xs]])).mpr (hyp_ W k_Qs k_Ps k_All i pz hp _ rfl)
theorem Xcw : PureOk Try.prog 6 X4 [(false, [.bool])] (WfD X4) fun _ => [[.b true]] :=
 Xhw fun W qs ps all i pz hp Q h => by unfold Xbv;delta Zfm Zfq; simp [Vif_iff, Pre_iff, h, show (Xz).res = (Xcy).res from rfl]
end Go.Proofs.Ytifhdbgciehicaa
namespace Go.Proofs.Ytifhdbgciehicaa.answerStrikes
open Go.ChangeShapes Go.WideShapes Go.ChangeAt Go.RowKit
set_option maxRecDepth 100000
theorem own : ownKnob Try.prog.godebug = none := by kernel_rfl
theorem laid : laidOutB Try.prog = true := by kernel_rfl
theorem lifted (os : Os) (started : os.Started) (H : Type) (enc : TypeId × Value -> H) :
  ReturnsInHanded {} Try.checked os 6 .any (Rows.answerStrikesSpec.pre6 enc Try.prog Try.f6 Rows.answerStrikesRow.domain false) (Rows.answerStrikesSpec.post enc Try.prog Try.f6 false true false false) := by
 refine returnsInHanded_of_change (C := Try.checked) own started (by kernel_rfl) Try.func6
  (ChangeSpec.witness6 (enc := enc) (C := Try.checked) false ⟨#[], #[(.agg #[.slice none 0 0, .slice none 0 0, .int .i64 0]), (.int .i64 0), (.slice none 0 0)], []⟩ 8 (by kernel_rfl) (by kernel_rfl) (by kernel_rfl) (by kernel_rfl)) ?_
 intro W base args ds gs before hval hW _ _;exact law_end (f := Try.f6) (s := Rows.answerStrikesSpec) (by kernel_rfl) Try.underlying4 (by kernel_rfl) rfl laid (by kernel_rfl)
  (fun ds h => by match ds, (show ds.length = 3 from h) with | [_, _, _], _ => exact ⟨rfl, rfl, rfl⟩) Xcw hval hW
theorem over : Rows.answerStrikesRow.holds Try.pinned (OpenSpec.ofChange Rows.answerStrikesSpec) :=
 OpenClaim.holds_of_wide 6 Try.f6 rfl rfl rfl rfl rfl rfl rfl ⟨rfl, rfl, rfl, rfl, rfl⟩ rfl rfl rfl rfl rfl (by kernel_rfl) Try.func6 (by kernel_rfl)
  (of_decide_eq_true (by kernel_rfl)) (by unfold Func.isWrapper; first | (rw [if_pos (by decide +kernel)]; kernel_rfl) | (rw [if_neg (by decide +kernel)]; exact ⟨rfl, rfl⟩))
  (fun os started H enc _ => lifted os started H enc)
theorem proved : Rows.AnswerStrikesSaid := over
end Go.Proofs.Ytifhdbgciehicaa.answerStrikes

/-
  'PaperKnown': for every input the law returns true, and what is handed in reads as before. No condition.
-/
import Derived.Test.YtilnbgpogfabaaaQknc
import Derived.Test.YtilnbgpogfabaaaRows
import Derived.WalkKit
import Derived.ProofKit
set_option linter.unusedVariables false
set_option linter.unusedSectionVars false
set_option linter.unusedSimpArgs false
namespace Go.Proofs.Ytilnbgpogfabaaa
open Go.RowKit
set_option maxRecDepth 100000
theorem Xhk [InW] {b : Bool} {A B : Prop} (hb : b = true) (ha : A) : Vif b A B := Vif_iff.2 ⟨fun _ => ha, fun h => absurd (hb.symm.trans h) (by decide)⟩
theorem Xe8 [W : InW] (Q : DS -> Prop) (h : Q [[.b true]]) : Xt Q := by
 unfold Xt;delta Zbn Zbo Zbq Zbp Zbm Zbl Zbr Zi
 repeat first | refine Xhk (by kernel_rfl) ?_ | refine Pre_iff.2 ⟨trivial, ?_⟩ | refine Pre_iff.2 ⟨by kernel_rfl, ?_⟩
 exact (congrArg Q (by kernel_rfl)).mpr h
noncomputable def Xew : PC Try.prog := ⟨23, [], [(false, [.bool])], fun _ => True, fun _ => [[.b true]], Xe2 fun W hp Q h => Xe8 Q h⟩
set_option maxHeartbeats 1600000
noncomputable def TL7 : Tab Try.prog := ⟨[Xdy, Xc6, Xbw, Xew], [], []⟩
def Xb6 [W : InW]  (Q : DS -> Prop) : Prop :=
 Pre True (Pre True (Pre True (Pre True (Pre True (Pre True (Vif (decide (Sp.nthE Zbl Zbm Zbp Zbq (0 : Int) = 0)) (Vif (decide (Sp.nthE Zbl Zbm Zbp Zbq (1 : Int) = 0)) (Vif (decide (Sp.fairE Zbl Zbm Zbp Zbq (1 : Int) = 0)) (Vif (decide (Sp.fairE Zbl Zbm Zbp Zbq (3 : Int) = 0)) (Vif (decide (Sp.nthE Zbl Zbm Zbp Zbq (3 : Int) = 4)) (Vif (decide (Sp.fairE Zbl Zbm Zbp Zbq (4 : Int) = 9)) (Pre True (Vif (Sp.eqI (Sp.nthR Zbl Zbm Zbp Zbq (0 : Int)) [[Cl.i 0], [Cl.i 2], [Cl.i 3]]) (Pre True (Vif (Sp.eqI (Sp.nthR Zbl Zbm Zbp Zbq (1 : Int)) [[Cl.i 0], [Cl.i 3], [Cl.i 4]]) (Vif (decide ((Sp.fairR Zbl Zbm Zbp Zbq (1 : Int)).lo = 1100) && (decide ((Sp.fairR Zbl Zbm Zbp Zbq (1 : Int)).hi = 1100) && true)) (Vif (decide ((Sp.fairR Zbl Zbm Zbp Zbq (3 : Int)).lo = 1100) && (decide ((Sp.fairR Zbl Zbm Zbp Zbq (3 : Int)).hi = 1200) && true)) (Pre True (Q [[Cl.b true]])) (Q Zbo)) (Q Zbo)) (Q Zbo))) (Q Zbo))) (Q Zbo)) (Q Zbo)) (Q Zbo)) (Q Zbo)) (Q Zbo)) (Q Zbo)))))))
theorem Xgb (W : InW)  (Q : DS -> Prop) : Yw5 (cxT Try.prog TT TL7 1000 50) 1000 7 [] [] 0 (Y1i [(false, [.bool])] Q) (fun _ _ _ _ => Stuck 421) = Xb6  Q := by kernel_rfl
abbrev Xbb : List AT := []
theorem Xhc {pre : DS -> Prop} {res : DS -> DS} (hyp_ : ∀ (W : InW) , pre [] -> ∀ Q : DS -> Prop, Q (res []) -> Xb6  Q) : PureOk Try.prog 7 Xbb [(false, [.bool])] pre res :=
 PureOk.of' (fun W => @TT W) (fun W => @Xc W) Xa TL7 1000 50 fun W hp =>
  (Xgb W  (fun o => o = res [])).mpr (hyp_ W  hp _ rfl)
theorem Xd6 : PureOk Try.prog 7 Xbb [(false, [.bool])] (WfD Xbb) fun _ => [[.b true]] :=
 Xhc fun W  hp Q h => by
  unfold Xb6;delta Zbo Zbq Zbp Zbm Zbl
  repeat first | refine Xhk (by kernel_rfl) ?_ | refine Pre_iff.2 ⟨trivial, ?_⟩ | refine Pre_iff.2 ⟨by kernel_rfl, ?_⟩
  exact (congrArg Q (by kernel_rfl)).mpr h
end Go.Proofs.Ytilnbgpogfabaaa
namespace Go.Proofs.Ytilnbgpogfabaaa.paperKnown
open Go.ChangeShapes Go.WideShapes Go.ChangeAt Go.RowKit
set_option maxRecDepth 100000
theorem own : ownKnob Try.prog.godebug = none := by kernel_rfl
theorem laid : laidOutB Try.prog = true := by kernel_rfl
theorem lifted (os : Os) (started : os.Started) (H : Type) (enc : TypeId × Value -> H) :
  ReturnsInHanded {} Try.checked os 7 .any (Rows.paperKnownSpec.pre6 enc Try.prog Try.f7 Rows.paperKnownRow.domain false) (Rows.paperKnownSpec.post enc Try.prog Try.f7 false true false false) := by
 refine returnsInHanded_of_change (C := Try.checked) own started (by kernel_rfl) Try.func7
  (ChangeSpec.witness6 (enc := enc) (C := Try.checked) false ⟨#[], #[], []⟩ 8 (by kernel_rfl) (by kernel_rfl) (by kernel_rfl) (by kernel_rfl)) ?_
 intro W base args ds gs before hval hW _ _;exact law_end (f := Try.f7) (s := Rows.paperKnownSpec) (by kernel_rfl) Try.underlying4 (by kernel_rfl) rfl laid (by kernel_rfl)
  (fun ds h => by match ds, (show ds.length = 0 from h) with | [], _ => exact ⟨rfl, rfl, rfl⟩) Xd6 hval hW
theorem over : Rows.paperKnownRow.holds Try.pinned (OpenSpec.ofChange Rows.paperKnownSpec) :=
 OpenClaim.holds_of_wide 7 Try.f7 rfl rfl rfl rfl rfl rfl rfl ⟨rfl, rfl, rfl, rfl, rfl⟩ rfl rfl rfl rfl rfl (by kernel_rfl) Try.func7 (by kernel_rfl)
  (of_decide_eq_true (by kernel_rfl)) (by unfold Func.isWrapper; first | (rw [if_pos (by decide +kernel)]; kernel_rfl) | (rw [if_neg (by decide +kernel)]; exact ⟨rfl, rfl⟩))
  (fun os started H enc _ => lifted os started H enc)
theorem proved : Rows.PaperKnownSaid := over
end Go.Proofs.Ytilnbgpogfabaaa.paperKnown

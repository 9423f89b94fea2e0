/-
  'AnswerKnown': for every input the law returns true, and what is handed in reads as before. No condition.
-/
import Derived.Test.YtifhdbgciehicaaQknc
import Derived.Test.YtifhdbgciehicaaRows
import Derived.WalkKit
import Derived.ProofKit
set_option linter.unusedVariables false
set_option linter.unusedSectionVars false
set_option linter.unusedSimpArgs false
namespace Go.Proofs.Ytifhdbgciehicaa
open Go.RowKit
set_option maxRecDepth 100000
theorem Xk0 [InW] {b : Bool} {A B : Prop} (hb : b = true) (ha : A) : Vif b A B := Vif_iff.2 ⟨fun _ => ha, fun h => absurd (hb.symm.trans h) (by decide)⟩
theorem Xh7 [W : InW] (Q : DS -> Prop) (h : Q [[.b true]]) : X9 Q := by
 unfold X9;delta Zbn Zbj Zbk Zbl Zbm Zbp Zbo Zbi Zb
 repeat first | refine Xk0 (by kernel_rfl) ?_ | refine Pre_iff.2 ⟨trivial, ?_⟩ | refine Pre_iff.2 ⟨by kernel_rfl, ?_⟩ | refine Pre_iff.2 ⟨⟨by kernel_rfl, by kernel_rfl, by kernel_rfl⟩, ?_⟩
 exact (congrArg Q (by kernel_rfl)).mpr h
noncomputable def Xhh : PC Try.prog := ⟨22, [], [(false, [.bool])], fun _ => True, fun _ => [[.b true]], Xhw fun W hp Q h => Xh7 Q h⟩
open Go.RowKit
set_option maxRecDepth 100000
set_option maxHeartbeats 1600000
noncomputable def TL7 : Tab Try.prog := ⟨[Xf2, Xf1, Xf3, Xel, Xbv, Xem, Xhh], [], []⟩
def Zbq := [[Cl.l [Zbp, [Cl.i 1], [Cl.i 1]]], [Cl.l [Zbp, [Cl.i 1]]], [Cl.l [[Cl.i 1], Zbp, Zbp]]]
def Zbr := Sp.lookR Zbi Zbk (8 : Int) Zbj
def Xr [W : InW]  (Q : DS -> Prop) : Prop :=
 Pre True (Pre True (Pre True (Pre True (Pre True (Vif (decide (Sp.markE Zbi Zbk Zbo Zbq = Zb)) (Vif (decide (Sp.askE Zbi Zbk (3 : Int) Zbj = Zb)) (Vif (decide (Sp.askE Zbi Zbk (13 : Int) Zbj = Zb)) (Vif (decide (Sp.askE Zbi Zbk Zbo Zbj = Zb)) (Vif (decide (Sp.lookE Zbi Zbk (8 : Int) Zbj = Zb)) (Pre (Sp.markR Zbi Zbk Zbo Zbq = [Zbp, [Cl.i (-2 : Int)]]) (Vif true (Vif (!Sp.markB Zbi Zbk Zbo Zbq) (Vif (decide (Sp.ocA Zbi Zbk (3 : Int) Zbj = (1 : Int))) (Vif (decide (Sp.ocA Zbi Zbk (13 : Int) Zbj = Zb)) (Pre (Sp.dcA Zbi Zbk Zbo Zbj = [[Cl.i 0, Cl.i 2], [Cl.i 2, Cl.i 0]]) (Vif true (Vif (decide (Zbr.a = 2) && (decide (Zbr.b = 0) && true)) (Vif (decide (Zbr.n = 1)) (Pre True (Q [[Cl.b true]])) (Q Zbm)) (Q Zbm)) (Q Zbm))) (Q Zbm)) (Q Zbm)) (Q Zbm)) (Q Zbm))) (Q Zbm)) (Q Zbm)) (Q Zbm)) (Q Zbm)) (Q Zbm))))))
theorem Xcr (W : InW)  (Q : DS -> Prop) : Ywr (cxT Try.prog TT TL7 1000 50) 1000 7 [] [] 0 (Y01 [(false, [.bool])] Q) (fun _ _ _ _ => Stuck 421) = Xr  Q := by kernel_rfl
abbrev Xm : List AT := []
theorem Xc0 {pre : DS -> Prop} {res : DS -> DS} (hyp_ : ∀ (W : InW) , pre [] -> ∀ Q : DS -> Prop, Q (res []) -> Xr  Q) : PureOk Try.prog 7 Xm [(false, [.bool])] pre res :=
 PureOk.of' (fun W => @TT W) (fun W => @Xd W) Xa TL7 1000 50 fun W hp =>
  (Xcr W  (fun o => o = res [])).mpr (hyp_ W  hp _ rfl)
theorem Xfo : PureOk Try.prog 7 Xm [(false, [.bool])] (WfD Xm) fun _ => [[.b true]] :=
 Xc0 fun W hp Q h => by
  unfold Xr;delta Zbr Zbj Zbk Zbq Zbm Zbp Zbi Zbo Zb
  repeat first | refine Xk0 (by kernel_rfl) ?_ | refine Pre_iff.2 ⟨trivial, ?_⟩ | refine Pre_iff.2 ⟨by kernel_rfl, ?_⟩ | refine Pre_iff.2 ⟨⟨by kernel_rfl, by kernel_rfl, by kernel_rfl⟩, ?_⟩
  exact (congrArg Q (by kernel_rfl)).mpr h
end Go.Proofs.Ytifhdbgciehicaa
namespace Go.Proofs.Ytifhdbgciehicaa.answerKnown
open Go.ChangeShapes Go.WideShapes Go.ChangeAt Go.RowKit
set_option maxRecDepth 100000
theorem own : ownKnob Try.prog.godebug = none := by kernel_rfl
theorem laid : laidOutB Try.prog = true := by kernel_rfl
theorem lifted (os : Os) (started : os.Started) (H : Type) (enc : TypeId × Value -> H) :
  ReturnsInHanded {} Try.checked os 7 .any (Rows.answerKnownSpec.pre6 enc Try.prog Try.f7 Rows.answerKnownRow.domain false) (Rows.answerKnownSpec.post enc Try.prog Try.f7 false true false false) := by
 refine returnsInHanded_of_change (C := Try.checked) own started (by kernel_rfl) Try.func7
  (ChangeSpec.witness6 (enc := enc) (C := Try.checked) false ⟨#[], #[], []⟩ 8 (by kernel_rfl) (by kernel_rfl) (by kernel_rfl) (by kernel_rfl)) ?_
 intro W base args ds gs before hval hW _ _;exact law_end (f := Try.f7) (s := Rows.answerKnownSpec) (by kernel_rfl) Try.underlying4 (by kernel_rfl) rfl laid (by kernel_rfl)
  (fun ds h => by match ds, (show ds.length = 0 from h) with | [], _ => exact ⟨rfl, rfl, rfl⟩) Xfo hval hW
theorem over : Rows.answerKnownRow.holds Try.pinned (OpenSpec.ofChange Rows.answerKnownSpec) :=
 OpenClaim.holds_of_wide 7 Try.f7 rfl rfl rfl rfl rfl rfl rfl ⟨rfl, rfl, rfl, rfl, rfl⟩ rfl rfl rfl rfl rfl (by kernel_rfl) Try.func7 (by kernel_rfl)
  (of_decide_eq_true (by kernel_rfl)) (by unfold Func.isWrapper; first | (rw [if_pos (by decide +kernel)]; kernel_rfl) | (rw [if_neg (by decide +kernel)]; exact ⟨rfl, rfl⟩))
  (fun os started H enc _ => lifted os started H enc)
theorem proved : Rows.AnswerKnownSaid := over
end Go.Proofs.Ytifhdbgciehicaa.answerKnown

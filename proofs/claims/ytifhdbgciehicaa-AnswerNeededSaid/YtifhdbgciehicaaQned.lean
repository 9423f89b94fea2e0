/-
  'AnswerNeeded': for every input the law returns true, and what is handed in reads as before. No condition.
-/
import Derived.Test.YtifhdbgciehicaaQnec
set_option linter.unusedVariables false
set_option linter.unusedSectionVars false
set_option linter.unusedSimpArgs false
namespace Go.Proofs.Ytifhdbgciehicaa
open Go.RowKit
set_option maxRecDepth 100000
set_option maxHeartbeats 1600000
noncomputable def TM1 : Tab Try.prog := ⟨[Xlx, Xhp, Xlw, Xhq, Xjd, Xlv, Xly, Xdg, Xjf, Xjb, Xlz], [], []⟩
abbrev lM1 (n : Int) : Pt := .lit (.int .i64 n)
abbrev vM1 [W : InW] (n : Int) : AV := .v (.int .i64 n)
def xsM1 [W : InW] (c : CC) : List AV := match insL c.args [] with | some x => x.1 | none => []
def ysM1 [W : InW] (c : CC) : Heap := match insH c.H [] with | some x => x.1 | none => []
def Zex := [[Cl.i 0, Cl.i 3, Cl.i 1, Cl.i 4, Cl.i 1], [Cl.i 0, Cl.i 2, Cl.i 0, Cl.i 3, Cl.i 0], [Cl.i 1, Cl.i 3, Cl.i 2, Cl.i 5, Cl.i 2]]
def Zfe := [Cl.i 0]
def Zez := [[Cl.i 3], Zfe]
def Zfd := (7 : Int)
def Zfa := [[Cl.l [Zfe, [Cl.i 1], Zfe]], [Cl.l [[Cl.i 1], Zfe]], [Cl.l [Zfe, Zfe, [Cl.i 1]]]]
def Zey := [[Cl.l [Zfe, [Cl.i 1], [Cl.i 2]]], [Cl.l [[Cl.i 1], Zfe]], [Cl.l [[Cl.i 2], Zfe, [Cl.i 1]]]]
def Zfc := [[Cl.l Zey], [Cl.l [[Cl.l [[Cl.i 1], Zfe, Zfe]], [Cl.l [Zfe, [Cl.i 1]]], [Cl.l [Zfe, Zfe, [Cl.i 1]]]]]]
def Zfb := [[Cl.b false]]
def Xbb [W : InW]  (Q : DS -> Prop) : Prop :=
 Pre True (Pre True (Pre True (Pre True (Pre True (Pre True (Pre True (Pre True (Vif (decide (Sp.markE Zex Zez Zfd Zfa = Zb)) (Vif (decide (Sp.askE Zex Zez Zfd Zey = Zb)) (Vif (decide (Sp.askE Zex Zez Zfd Zey = Zb)) (Vif (decide (Sp.askE Zex Zez (8 : Int) Zey = Zb)) (Vif (decide (Sp.lookE Zex Zez Zfd Zey = Zb)) (Vif (decide (Sp.strE Zex Zez Zfd (2 : Int) = 0)) (Vif (decide (Sp.misE Zex Zez Zfd Zfc = Zb)) (Vif (decide (Sp.askE Zex Zez Zfd [] = (3 : Int))) (Pre (Sp.markR Zex Zez Zfd Zfa = [[Cl.i 7], [Cl.i 5]]) (Vif true (Vif (Sp.markB Zex Zez Zfd Zfa) (Vif (decide (Sp.ocA Zex Zez Zfd Zey = (2 : Int))) (Pre (Sp.scA Zex Zez Zfd Zey = [[Cl.i 3], [Cl.i 7], [Cl.i 8], [Cl.i 12]]) (Vif true (Pre (Sp.dcA Zex Zez (8 : Int) Zey = [[Cl.i 2, Cl.i 0]]) (Vif true (Vif (decide ((Sp.lookR Zex Zez Zfd Zey).a = 0) && (decide ((Sp.lookR Zex Zez Zfd Zey).b = 2) && true)) (Vif (decide ((Sp.lookR Zex Zez Zfd Zey).n = 2)) (Pre (Sp.strQ Zex (Int.toNat (2 : Int)) = [[Cl.i 0, Cl.i 3, Cl.i 1, Cl.i 4, Cl.i 1], [Cl.i 0, Cl.i 2, Cl.i 0, Cl.i 3, Cl.i 0]] /\ Sp.strP Zex Zez (Int.toNat (2 : Int)) = [[Cl.i 3], [Cl.i (-5 : Int)]] /\ Sp.strA Zex Zfd (Int.toNat (2 : Int)) = 2) (Vif true (Pre (Sp.misV Zex Zez Zfd Zfc = [[Cl.i 1, Cl.i 2], [Cl.i 1, Cl.i 1], [Cl.i 0, Cl.i 1]]) (Q [[Cl.b true]])) (Q Zfb))) (Q Zfb)) (Q Zfb)) (Q Zfb))) (Q Zfb))) (Q Zfb)) (Q Zfb)) (Q Zfb))) (Q Zfb)) (Q Zfb)) (Q Zfb)) (Q Zfb)) (Q Zfb)) (Q Zfb)) (Q Zfb)) (Q Zfb)))))))))
theorem Xi2 (W : InW)  (Q : DS -> Prop) : Ywt (cxT Try.prog TT TM1 1000 50) 1000 22 [] [] 0 (Y02 [(false, [.bool])] Q) (fun _ _ _ _ => Stuck 421) = Xbb  Q := by kernel_rfl
abbrev Xie : List AT := []
theorem Xjx {pre : DS -> Prop} {res : DS -> DS} (hyp_ : ∀ (W : InW) , pre [] -> ∀ Q : DS -> Prop, Q (res []) -> Xbb  Q) : PureOk Try.prog 22 Xie [(false, [.bool])] pre res :=
 PureOk.of' (fun W => @TT W) (fun W => @Xc W) Xa TM1 1000 50 fun W hp =>
  (Xi2 W  (fun o => o = res [])).mpr (hyp_ W  hp _ rfl)
end Go.Proofs.Ytifhdbgciehicaa

/-
  'AnswerTurned': for every input the law returns true, and what is handed in reads as before. No condition.
-/
import Derived.Test.YtifhdbgciehicaaQtub
set_option linter.unusedVariables false
set_option linter.unusedSectionVars false
set_option linter.unusedSimpArgs false
noncomputable section
namespace Go.Proofs.Ytifhdbgciehicaa
open Go.RowKit
set_option maxRecDepth 100000
set_option maxHeartbeats 1600000
def TM1 : Tab Try.prog := ⟨[Xk8, Xg6, Xg5, Xla, Xis, Xk7, Xk9, Xb1, Xiu, Xiq, Xlb], [], []⟩
abbrev lM1 (n : Int) : Pt := .lit (.int .i64 n)
abbrev vM1 [W : InW] (n : Int) : AV := .v (.int .i64 n)
def xsM1 [W : InW] (c : CC) : List AV := match insL c.args [] with | some x => x.1 | none => []
def ysM1 [W : InW] (c : CC) : Heap := match insH c.H [] with | some x => x.1 | none => []
def Zbi := [[Cl.i 0, Cl.i 3, Cl.i 1, Cl.i 4, Cl.i 1], [Cl.i 0, Cl.i 2, Cl.i 0, Cl.i 3, Cl.i 0], [Cl.i 1, Cl.i 3, Cl.i 2, Cl.i 5, Cl.i 2]]
def Zbp := [Cl.i 0]
def Zbk := [[Cl.i 3], Zbp]
def Zbo := (7 : Int)
def Zbl := [[Cl.l [Zbp, [Cl.i 1], Zbp]], [Cl.l [[Cl.i 1], Zbp]], [Cl.l [Zbp, Zbp, [Cl.i 1]]]]
def Zbj := [[Cl.l [Zbp, [Cl.i 1], [Cl.i 2]]], [Cl.l [[Cl.i 1], Zbp]], [Cl.l [[Cl.i 2], Zbp, [Cl.i 1]]]]
def Zbn := [[Cl.l Zbj], [Cl.l [[Cl.l [[Cl.i 1], Zbp, Zbp]], [Cl.l [Zbp, [Cl.i 1]]], [Cl.l [Zbp, Zbp, [Cl.i 1]]]]]]
def Zbm := [[Cl.b false]]
def Xba [W : InW]  (Q : DS -> Prop) : Prop :=
 Pre True (Pre True (Pre True (Pre True (Pre True (Pre True (Pre True (Pre True (Vif (decide (Sp.markE Zbi Zbk Zbo Zbl = Zb)) (Vif (decide (Sp.askE Zbi Zbk Zbo Zbj = Zb)) (Vif (decide (Sp.askE Zbi Zbk Zbo Zbj = Zb)) (Vif (decide (Sp.askE Zbi Zbk (8 : Int) Zbj = Zb)) (Vif (decide (Sp.lookE Zbi Zbk Zbo Zbj = Zb)) (Vif (decide (Sp.strE Zbi Zbk Zbo (2 : Int) = 0)) (Vif (decide (Sp.misE Zbi Zbk Zbo Zbn = Zb)) (Vif (decide (Sp.askE Zbi Zbk Zbo [] = (3 : Int))) (Pre (Sp.markR Zbi Zbk Zbo Zbl = [[Cl.i 7], [Cl.i 5]]) (Vif true (Vif (Sp.markB Zbi Zbk Zbo Zbl) (Vif (decide (Sp.ocA Zbi Zbk Zbo Zbj = (2 : Int))) (Pre (Sp.scA Zbi Zbk Zbo Zbj = [[Cl.i 3], [Cl.i 7], [Cl.i 8], [Cl.i 12]]) (Vif true (Pre (Sp.dcA Zbi Zbk (8 : Int) Zbj = [[Cl.i 2, Cl.i 0]]) (Vif true (Vif (decide ((Sp.lookR Zbi Zbk Zbo Zbj).a = 0) && (decide ((Sp.lookR Zbi Zbk Zbo Zbj).b = 2) && true)) (Vif (decide ((Sp.lookR Zbi Zbk Zbo Zbj).n = 2)) (Pre (Sp.strQ Zbi (Int.toNat (2 : Int)) = [[Cl.i 0, Cl.i 3, Cl.i 1, Cl.i 4, Cl.i 1], [Cl.i 0, Cl.i 2, Cl.i 0, Cl.i 3, Cl.i 0]] /\ Sp.strP Zbi Zbk (Int.toNat (2 : Int)) = [[Cl.i 3], [Cl.i (-5 : Int)]] /\ Sp.strA Zbi Zbo (Int.toNat (2 : Int)) = 2) (Vif true (Pre (Sp.misV Zbi Zbk Zbo Zbn = [[Cl.i 1, Cl.i 2], [Cl.i 1, Cl.i 1], [Cl.i 0, Cl.i 1]]) (Q [[Cl.b true]])) (Q Zbm))) (Q Zbm)) (Q Zbm)) (Q Zbm))) (Q Zbm))) (Q Zbm)) (Q Zbm)) (Q Zbm))) (Q Zbm)) (Q Zbm)) (Q Zbm)) (Q Zbm)) (Q Zbm)) (Q Zbm)) (Q Zbm)) (Q Zbm)))))))))
theorem Xih (W : InW)  (Q : DS -> Prop) : Ywx (cxT Try.prog TT TM1 1000 50) 1000 22 [] [] 0 (Y04 [(false, [.bool])] Q) (fun _ _ _ _ => Stuck 421) = Xba  Q := by kernel_rfl
abbrev Xhv : List AT := []
theorem Xjd {pre : DS -> Prop} {res : DS -> DS} (hyp_ : ∀ (W : InW) , pre [] -> ∀ Q : DS -> Prop, Q (res []) -> Xba  Q) : PureOk Try.prog 22 Xhv [(false, [.bool])] pre res :=
 PureOk.of' (fun W => @TT W) (fun W => @Xe W) Xa TM1 1000 50 fun W hp =>
  (Xih W  (fun o => o = res [])).mpr (hyp_ W  hp _ rfl)
end Go.Proofs.Ytifhdbgciehicaa

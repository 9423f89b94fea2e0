/-
  'AnswerStruck': for every input the law returns true, and what is handed in reads as before. No condition.
-/
import Derived.Test.YtifhdbgciehicaaQskc
set_option linter.unusedVariables false
set_option linter.unusedSectionVars false
set_option linter.unusedSimpArgs false
noncomputable section
namespace Go.Proofs.Ytifhdbgciehicaa
open Go.RowKit
set_option maxRecDepth 100000
set_option maxHeartbeats 1600000
def TM1 : Tab Try.prog := ⟨[Xhu, Xl9, Xl8, Xmb, Xjk, Xl7, Xma, Xdj, Xjm, Xjh, Xhw], [], []⟩
abbrev lM1 (n : Int) : Pt := .lit (.int .i64 n)
abbrev vM1 [W : InW] (n : Int) : AV := .v (.int .i64 n)
def xsM1 [W : InW] (c : CC) : List AV := match insL c.args [] with | some x => x.1 | none => []
def ysM1 [W : InW] (c : CC) : Heap := match insH c.H [] with | some x => x.1 | none => []
def Zev := [[Cl.i 0, Cl.i 3, Cl.i 1, Cl.i 4, Cl.i 1], [Cl.i 0, Cl.i 2, Cl.i 0, Cl.i 3, Cl.i 0], [Cl.i 1, Cl.i 3, Cl.i 2, Cl.i 5, Cl.i 2]]
def Zfc := [Cl.i 0]
def Zex := [[Cl.i 3], Zfc]
def Zfb := (7 : Int)
def Zey := [[Cl.l [Zfc, [Cl.i 1], Zfc]], [Cl.l [[Cl.i 1], Zfc]], [Cl.l [Zfc, Zfc, [Cl.i 1]]]]
def Zew := [[Cl.l [Zfc, [Cl.i 1], [Cl.i 2]]], [Cl.l [[Cl.i 1], Zfc]], [Cl.l [[Cl.i 2], Zfc, [Cl.i 1]]]]
def Zfa := [[Cl.l Zew], [Cl.l [[Cl.l [[Cl.i 1], Zfc, Zfc]], [Cl.l [Zfc, [Cl.i 1]]], [Cl.l [Zfc, Zfc, [Cl.i 1]]]]]]
def Zez := [[Cl.b false]]
def Xbf [W : InW]  (Q : DS -> Prop) : Prop :=
 Pre True (Pre True (Pre True (Pre True (Pre True (Pre True (Pre True (Pre True (Vif (decide (Sp.markE Zev Zex Zfb Zey = Zb)) (Vif (decide (Sp.askE Zev Zex Zfb Zew = Zb)) (Vif (decide (Sp.askE Zev Zex Zfb Zew = Zb)) (Vif (decide (Sp.askE Zev Zex (8 : Int) Zew = Zb)) (Vif (decide (Sp.lookE Zev Zex Zfb Zew = Zb)) (Vif (decide (Sp.strE Zev Zex Zfb (2 : Int) = 0)) (Vif (decide (Sp.misE Zev Zex Zfb Zfa = Zb)) (Vif (decide (Sp.askE Zev Zex Zfb [] = (3 : Int))) (Pre (Sp.markR Zev Zex Zfb Zey = [[Cl.i 7], [Cl.i 5]]) (Vif true (Vif (Sp.markB Zev Zex Zfb Zey) (Vif (decide (Sp.ocA Zev Zex Zfb Zew = (2 : Int))) (Pre (Sp.scA Zev Zex Zfb Zew = [[Cl.i 3], [Cl.i 7], [Cl.i 8], [Cl.i 12]]) (Vif true (Pre (Sp.dcA Zev Zex (8 : Int) Zew = [[Cl.i 2, Cl.i 0]]) (Vif true (Vif (decide ((Sp.lookR Zev Zex Zfb Zew).a = 0) && (decide ((Sp.lookR Zev Zex Zfb Zew).b = 2) && true)) (Vif (decide ((Sp.lookR Zev Zex Zfb Zew).n = 2)) (Pre (Sp.strQ Zev (Int.toNat (2 : Int)) = [[Cl.i 0, Cl.i 3, Cl.i 1, Cl.i 4, Cl.i 1], [Cl.i 0, Cl.i 2, Cl.i 0, Cl.i 3, Cl.i 0]] /\ Sp.strP Zev Zex (Int.toNat (2 : Int)) = [[Cl.i 3], [Cl.i (-5 : Int)]] /\ Sp.strA Zev Zfb (Int.toNat (2 : Int)) = 2) (Vif true (Pre (Sp.misV Zev Zex Zfb Zfa = [[Cl.i 1, Cl.i 2], [Cl.i 1, Cl.i 1], [Cl.i 0, Cl.i 1]]) (Q [[Cl.b true]])) (Q Zez))) (Q Zez)) (Q Zez)) (Q Zez))) (Q Zez))) (Q Zez)) (Q Zez)) (Q Zez))) (Q Zez)) (Q Zez)) (Q Zez)) (Q Zez)) (Q Zez)) (Q Zez)) (Q Zez)) (Q Zez)))))))))
theorem Xi9 (W : InW)  (Q : DS -> Prop) : Ywx (cxT Try.prog TT TM1 1000 50) 1000 22 [] [] 0 (Y04 [(false, [.bool])] Q) (fun _ _ _ _ => Stuck 421) = Xbf  Q := by kernel_rfl
abbrev Xim : List AT := []
theorem Xj5 {pre : DS -> Prop} {res : DS -> DS} (hyp_ : ∀ (W : InW) , pre [] -> ∀ Q : DS -> Prop, Q (res []) -> Xbf  Q) : PureOk Try.prog 22 Xim [(false, [.bool])] pre res :=
 PureOk.of' (fun W => @TT W) (fun W => @Xe W) Xa TM1 1000 50 fun W hp =>
  (Xi9 W  (fun o => o = res [])).mpr (hyp_ W  hp _ rfl)
end Go.Proofs.Ytifhdbgciehicaa

/-
  'AnswerMissed': for every input the law returns true, and what is handed in reads as before. No condition.
-/
import Derived.Test.YtifhdbgciehicaaQmic
set_option linter.unusedVariables false
set_option linter.unusedSectionVars false
set_option linter.unusedSimpArgs false
noncomputable section
namespace Go.Proofs.Ytifhdbgciehicaa
open Go.RowKit
set_option maxRecDepth 100000
set_option maxHeartbeats 1600000
def TM1 : Tab Try.prog := ⟨[Xmt, Xms, Xmr, Xmu, Xj1, Xmq, Xib, Xdf, Xj3, Xjz, Xmv], [], []⟩
abbrev lM1 (n : Int) : Pt := .lit (.int .i64 n)
abbrev vM1 [W : InW] (n : Int) : AV := .v (.int .i64 n)
def xsM1 [W : InW] (c : CC) : List AV := match insL c.args [] with | some x => x.1 | none => []
def ysM1 [W : InW] (c : CC) : Heap := match insH c.H [] with | some x => x.1 | none => []
def Zey := [[Cl.i 0, Cl.i 3, Cl.i 1, Cl.i 4, Cl.i 1], [Cl.i 0, Cl.i 2, Cl.i 0, Cl.i 3, Cl.i 0], [Cl.i 1, Cl.i 3, Cl.i 2, Cl.i 5, Cl.i 2]]
def Zff := [Cl.i 0]
def Zfa := [[Cl.i 3], Zff]
def Zfe := (7 : Int)
def Zfb := [[Cl.l [Zff, [Cl.i 1], Zff]], [Cl.l [[Cl.i 1], Zff]], [Cl.l [Zff, Zff, [Cl.i 1]]]]
def Zez := [[Cl.l [Zff, [Cl.i 1], [Cl.i 2]]], [Cl.l [[Cl.i 1], Zff]], [Cl.l [[Cl.i 2], Zff, [Cl.i 1]]]]
def Zfd := [[Cl.l Zez], [Cl.l [[Cl.l [[Cl.i 1], Zff, Zff]], [Cl.l [Zff, [Cl.i 1]]], [Cl.l [Zff, Zff, [Cl.i 1]]]]]]
def Zfc := [[Cl.b false]]
def Xbc [W : InW]  (Q : DS -> Prop) : Prop :=
 Pre True (Pre True (Pre True (Pre True (Pre True (Pre True (Pre True (Pre True (Vif (decide (Sp.markE Zey Zfa Zfe Zfb = Zb)) (Vif (decide (Sp.askE Zey Zfa Zfe Zez = Zb)) (Vif (decide (Sp.askE Zey Zfa Zfe Zez = Zb)) (Vif (decide (Sp.askE Zey Zfa (8 : Int) Zez = Zb)) (Vif (decide (Sp.lookE Zey Zfa Zfe Zez = Zb)) (Vif (decide (Sp.strE Zey Zfa Zfe (2 : Int) = 0)) (Vif (decide (Sp.misE Zey Zfa Zfe Zfd = Zb)) (Vif (decide (Sp.askE Zey Zfa Zfe [] = (3 : Int))) (Pre (Sp.markR Zey Zfa Zfe Zfb = [[Cl.i 7], [Cl.i 5]]) (Vif true (Vif (Sp.markB Zey Zfa Zfe Zfb) (Vif (decide (Sp.ocA Zey Zfa Zfe Zez = (2 : Int))) (Pre (Sp.scA Zey Zfa Zfe Zez = [[Cl.i 3], [Cl.i 7], [Cl.i 8], [Cl.i 12]]) (Vif true (Pre (Sp.dcA Zey Zfa (8 : Int) Zez = [[Cl.i 2, Cl.i 0]]) (Vif true (Vif (decide ((Sp.lookR Zey Zfa Zfe Zez).a = 0) && (decide ((Sp.lookR Zey Zfa Zfe Zez).b = 2) && true)) (Vif (decide ((Sp.lookR Zey Zfa Zfe Zez).n = 2)) (Pre (Sp.strQ Zey (Int.toNat (2 : Int)) = [[Cl.i 0, Cl.i 3, Cl.i 1, Cl.i 4, Cl.i 1], [Cl.i 0, Cl.i 2, Cl.i 0, Cl.i 3, Cl.i 0]] /\ Sp.strP Zey Zfa (Int.toNat (2 : Int)) = [[Cl.i 3], [Cl.i (-5 : Int)]] /\ Sp.strA Zey Zfe (Int.toNat (2 : Int)) = 2) (Vif true (Pre (Sp.misV Zey Zfa Zfe Zfd = [[Cl.i 1, Cl.i 2], [Cl.i 1, Cl.i 1], [Cl.i 0, Cl.i 1]]) (Q [[Cl.b true]])) (Q Zfc))) (Q Zfc)) (Q Zfc)) (Q Zfc))) (Q Zfc))) (Q Zfc)) (Q Zfc)) (Q Zfc))) (Q Zfc)) (Q Zfc)) (Q Zfc)) (Q Zfc)) (Q Zfc)) (Q Zfc)) (Q Zfc)) (Q Zfc)))))))))
theorem Xjr (W : InW)  (Q : DS -> Prop) : Ywt (cxT Try.prog TT TM1 1000 50) 1000 22 [] [] 0 (Y02 [(false, [.bool])] Q) (fun _ _ _ _ => Stuck 421) = Xbc  Q := by kernel_rfl
abbrev Xi3 : List AT := []
theorem Xkl {pre : DS -> Prop} {res : DS -> DS} (hyp_ : ∀ (W : InW) , pre [] -> ∀ Q : DS -> Prop, Q (res []) -> Xbc  Q) : PureOk Try.prog 22 Xi3 [(false, [.bool])] pre res :=
 PureOk.of' (fun W => @TT W) (fun W => @Xe W) Xa TM1 1000 50 fun W hp =>
  (Xjr W  (fun o => o = res [])).mpr (hyp_ W  hp _ rfl)
end Go.Proofs.Ytifhdbgciehicaa

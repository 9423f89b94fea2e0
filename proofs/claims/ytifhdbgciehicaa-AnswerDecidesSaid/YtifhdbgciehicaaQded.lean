/-
  'AnswerDecides': for every input the law returns true, and what is handed in reads as before. No condition.
-/
import Derived.Test.YtifhdbgciehicaaQdec
set_option linter.unusedVariables false
set_option linter.unusedSectionVars false
set_option linter.unusedSimpArgs false
noncomputable section
namespace Go.Proofs.Ytifhdbgciehicaa
open Go.RowKit
set_option maxRecDepth 100000
set_option maxHeartbeats 1600000
def TM1 : Tab Try.prog := ⟨[Xdj, Xid, Xmw, Xie, Xj3, Xmv, Xmx, Xdk, Xj5, Xj1, Xmy], [], []⟩
abbrev lM1 (n : Int) : Pt := .lit (.int .i64 n)
abbrev vM1 [W : InW] (n : Int) : AV := .v (.int .i64 n)
def xsM1 [W : InW] (c : CC) : List AV := match insL c.args [] with | some x => x.1 | none => []
def ysM1 [W : InW] (c : CC) : Heap := match insH c.H [] with | some x => x.1 | none => []
def Zeu := [[Cl.i 0, Cl.i 3, Cl.i 1, Cl.i 4, Cl.i 1], [Cl.i 0, Cl.i 2, Cl.i 0, Cl.i 3, Cl.i 0], [Cl.i 1, Cl.i 3, Cl.i 2, Cl.i 5, Cl.i 2]]
def Zfb := [Cl.i 0]
def Zew := [[Cl.i 3], Zfb]
def Zfa := (7 : Int)
def Zex := [[Cl.l [Zfb, [Cl.i 1], Zfb]], [Cl.l [[Cl.i 1], Zfb]], [Cl.l [Zfb, Zfb, [Cl.i 1]]]]
def Zev := [[Cl.l [Zfb, [Cl.i 1], [Cl.i 2]]], [Cl.l [[Cl.i 1], Zfb]], [Cl.l [[Cl.i 2], Zfb, [Cl.i 1]]]]
def Zez := [[Cl.l Zev], [Cl.l [[Cl.l [[Cl.i 1], Zfb, Zfb]], [Cl.l [Zfb, [Cl.i 1]]], [Cl.l [Zfb, Zfb, [Cl.i 1]]]]]]
def Zey := [[Cl.b false]]
def Xbd [W : InW]  (Q : DS -> Prop) : Prop :=
 Pre True (Pre True (Pre True (Pre True (Pre True (Pre True (Pre True (Pre True (Vif (decide (Sp.markE Zeu Zew Zfa Zex = Zb)) (Vif (decide (Sp.askE Zeu Zew Zfa Zev = Zb)) (Vif (decide (Sp.askE Zeu Zew Zfa Zev = Zb)) (Vif (decide (Sp.askE Zeu Zew (8 : Int) Zev = Zb)) (Vif (decide (Sp.lookE Zeu Zew Zfa Zev = Zb)) (Vif (decide (Sp.strE Zeu Zew Zfa (2 : Int) = 0)) (Vif (decide (Sp.misE Zeu Zew Zfa Zez = Zb)) (Vif (decide (Sp.askE Zeu Zew Zfa [] = (3 : Int))) (Pre (Sp.markR Zeu Zew Zfa Zex = [[Cl.i 7], [Cl.i 5]]) (Vif true (Vif (Sp.markB Zeu Zew Zfa Zex) (Vif (decide (Sp.ocA Zeu Zew Zfa Zev = (2 : Int))) (Pre (Sp.scA Zeu Zew Zfa Zev = [[Cl.i 3], [Cl.i 7], [Cl.i 8], [Cl.i 12]]) (Vif true (Pre (Sp.dcA Zeu Zew (8 : Int) Zev = [[Cl.i 2, Cl.i 0]]) (Vif true (Vif (decide ((Sp.lookR Zeu Zew Zfa Zev).a = 0) && (decide ((Sp.lookR Zeu Zew Zfa Zev).b = 2) && true)) (Vif (decide ((Sp.lookR Zeu Zew Zfa Zev).n = 2)) (Pre (Sp.strQ Zeu (Int.toNat (2 : Int)) = [[Cl.i 0, Cl.i 3, Cl.i 1, Cl.i 4, Cl.i 1], [Cl.i 0, Cl.i 2, Cl.i 0, Cl.i 3, Cl.i 0]] /\ Sp.strP Zeu Zew (Int.toNat (2 : Int)) = [[Cl.i 3], [Cl.i (-5 : Int)]] /\ Sp.strA Zeu Zfa (Int.toNat (2 : Int)) = 2) (Vif true (Pre (Sp.misV Zeu Zew Zfa Zez = [[Cl.i 1, Cl.i 2], [Cl.i 1, Cl.i 1], [Cl.i 0, Cl.i 1]]) (Q [[Cl.b true]])) (Q Zey))) (Q Zey)) (Q Zey)) (Q Zey))) (Q Zey))) (Q Zey)) (Q Zey)) (Q Zey))) (Q Zey)) (Q Zey)) (Q Zey)) (Q Zey)) (Q Zey)) (Q Zey)) (Q Zey)) (Q Zey)))))))))
theorem Xjt (W : InW)  (Q : DS -> Prop) : Ywt (cxT Try.prog TT TM1 1000 50) 1000 22 [] [] 0 (Y02 [(false, [.bool])] Q) (fun _ _ _ _ => Stuck 421) = Xbd  Q := by kernel_rfl
abbrev Xi6 : List AT := []
theorem Xko {pre : DS -> Prop} {res : DS -> DS} (hyp_ : ∀ (W : InW) , pre [] -> ∀ Q : DS -> Prop, Q (res []) -> Xbd  Q) : PureOk Try.prog 22 Xi6 [(false, [.bool])] pre res :=
 PureOk.of' (fun W => @TT W) (fun W => @Xc W) Xa TM1 1000 50 fun W hp =>
  (Xjt W  (fun o => o = res [])).mpr (hyp_ W  hp _ rfl)
end Go.Proofs.Ytifhdbgciehicaa

/-
  'AnswerOutcomes': for every input the law returns true, and what is handed in reads as before. No condition.
-/
import Derived.Test.YtifhdbgciehicaaQouc
set_option linter.unusedVariables false
set_option linter.unusedSectionVars false
set_option linter.unusedSimpArgs false
namespace Go.Proofs.Ytifhdbgciehicaa
open Go.RowKit
set_option maxRecDepth 100000
set_option maxHeartbeats 1600000
noncomputable def TM1 : Tab Try.prog := ⟨[Xng, Xiq, Xio, Xni, Xkm, Xnf, Xnh, Xcj, Xko, Xkk, Xnj], [], []⟩
abbrev lM1 (n : Int) : Pt := .lit (.int .i64 n)
abbrev vM1 [W : InW] (n : Int) : AV := .v (.int .i64 n)
def xsM1 [W : InW] (c : CC) : List AV := match insL c.args [] with | some x => x.1 | none => []
def ysM1 [W : InW] (c : CC) : Heap := match insH c.H [] with | some x => x.1 | none => []
def Zff := [[Cl.i 0, Cl.i 3, Cl.i 1, Cl.i 4, Cl.i 1], [Cl.i 0, Cl.i 2, Cl.i 0, Cl.i 3, Cl.i 0], [Cl.i 1, Cl.i 3, Cl.i 2, Cl.i 5, Cl.i 2]]
def Zfm := [Cl.i 0]
def Zfh := [[Cl.i 3], Zfm]
def Zfl := (7 : Int)
def Zfi := [[Cl.l [Zfm, [Cl.i 1], Zfm]], [Cl.l [[Cl.i 1], Zfm]], [Cl.l [Zfm, Zfm, [Cl.i 1]]]]
def Zfg := [[Cl.l [Zfm, [Cl.i 1], [Cl.i 2]]], [Cl.l [[Cl.i 1], Zfm]], [Cl.l [[Cl.i 2], Zfm, [Cl.i 1]]]]
def Zfk := [[Cl.l Zfg], [Cl.l [[Cl.l [[Cl.i 1], Zfm, Zfm]], [Cl.l [Zfm, [Cl.i 1]]], [Cl.l [Zfm, Zfm, [Cl.i 1]]]]]]
def Zfj := [[Cl.b false]]
def Xbj [W : InW]  (Q : DS -> Prop) : Prop :=
 Pre True (Pre True (Pre True (Pre True (Pre True (Pre True (Pre True (Pre True (Vif (decide (Sp.markE Zff Zfh Zfl Zfi = Zb)) (Vif (decide (Sp.askE Zff Zfh Zfl Zfg = Zb)) (Vif (decide (Sp.askE Zff Zfh Zfl Zfg = Zb)) (Vif (decide (Sp.askE Zff Zfh (8 : Int) Zfg = Zb)) (Vif (decide (Sp.lookE Zff Zfh Zfl Zfg = Zb)) (Vif (decide (Sp.strE Zff Zfh Zfl (2 : Int) = 0)) (Vif (decide (Sp.misE Zff Zfh Zfl Zfk = Zb)) (Vif (decide (Sp.askE Zff Zfh Zfl [] = (3 : Int))) (Pre (Sp.markR Zff Zfh Zfl Zfi = [[Cl.i 7], [Cl.i 5]]) (Vif true (Vif (Sp.markB Zff Zfh Zfl Zfi) (Vif (decide (Sp.ocA Zff Zfh Zfl Zfg = (2 : Int))) (Pre (Sp.scA Zff Zfh Zfl Zfg = [[Cl.i 3], [Cl.i 7], [Cl.i 8], [Cl.i 12]]) (Vif true (Pre (Sp.dcA Zff Zfh (8 : Int) Zfg = [[Cl.i 2, Cl.i 0]]) (Vif true (Vif (decide ((Sp.lookR Zff Zfh Zfl Zfg).a = 0) && (decide ((Sp.lookR Zff Zfh Zfl Zfg).b = 2) && true)) (Vif (decide ((Sp.lookR Zff Zfh Zfl Zfg).n = 2)) (Pre (Sp.strQ Zff (Int.toNat (2 : Int)) = [[Cl.i 0, Cl.i 3, Cl.i 1, Cl.i 4, Cl.i 1], [Cl.i 0, Cl.i 2, Cl.i 0, Cl.i 3, Cl.i 0]] /\ Sp.strP Zff Zfh (Int.toNat (2 : Int)) = [[Cl.i 3], [Cl.i (-5 : Int)]] /\ Sp.strA Zff Zfl (Int.toNat (2 : Int)) = 2) (Vif true (Pre (Sp.misV Zff Zfh Zfl Zfk = [[Cl.i 1, Cl.i 2], [Cl.i 1, Cl.i 1], [Cl.i 0, Cl.i 1]]) (Q [[Cl.b true]])) (Q Zfj))) (Q Zfj)) (Q Zfj)) (Q Zfj))) (Q Zfj))) (Q Zfj)) (Q Zfj)) (Q Zfj))) (Q Zfj)) (Q Zfj)) (Q Zfj)) (Q Zfj)) (Q Zfj)) (Q Zfj)) (Q Zfj)) (Q Zfj)))))))))
theorem Xka (W : InW)  (Q : DS -> Prop) : Ywr (cxT Try.prog TT TM1 1000 50) 1000 22 [] [] 0 (Y01 [(false, [.bool])] Q) (fun _ _ _ _ => Stuck 421) = Xbj  Q := by kernel_rfl
abbrev Xjj : List AT := []
theorem Xk8 {pre : DS -> Prop} {res : DS -> DS} (hyp_ : ∀ (W : InW) , pre [] -> ∀ Q : DS -> Prop, Q (res []) -> Xbj  Q) : PureOk Try.prog 22 Xjj [(false, [.bool])] pre res :=
 PureOk.of' (fun W => @TT W) (fun W => @Xe W) Xa TM1 1000 50 fun W hp =>
  (Xka W  (fun o => o = res [])).mpr (hyp_ W  hp _ rfl)
end Go.Proofs.Ytifhdbgciehicaa

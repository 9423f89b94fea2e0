/-
  'AnswerMarks': for every input the law returns true, and what is handed in reads as before. No condition.
-/
import Derived.Test.YtifhdbgciehicaaQmac
set_option linter.unusedVariables false
set_option linter.unusedSectionVars false
set_option linter.unusedSimpArgs false
namespace Go.Proofs.Ytifhdbgciehicaa
open Go.RowKit
set_option maxRecDepth 100000
set_option maxHeartbeats 1600000
noncomputable def TM1 : Tab Try.prog := ⟨[Xh2, Xme, Xmd, Xmg, Xjq, Xmc, Xmf, Xce, Xjs, Xjo, Xmh], [], []⟩
abbrev lM1 (n : Int) : Pt := .lit (.int .i64 n)
abbrev vM1 [W : InW] (n : Int) : AV := .v (.int .i64 n)
def xsM1 [W : InW] (c : CC) : List AV := match insL c.args [] with | some x => x.1 | none => []
def ysM1 [W : InW] (c : CC) : Heap := match insH c.H [] with | some x => x.1 | none => []
def Zbn := [[Cl.i 0, Cl.i 3, Cl.i 1, Cl.i 4, Cl.i 1], [Cl.i 0, Cl.i 2, Cl.i 0, Cl.i 3, Cl.i 0], [Cl.i 1, Cl.i 3, Cl.i 2, Cl.i 5, Cl.i 2]]
def Zbu := [Cl.i 0]
def Zbp := [[Cl.i 3], Zbu]
def Zbt := (7 : Int)
def Zbq := [[Cl.l [Zbu, [Cl.i 1], Zbu]], [Cl.l [[Cl.i 1], Zbu]], [Cl.l [Zbu, Zbu, [Cl.i 1]]]]
def Zbo := [[Cl.l [Zbu, [Cl.i 1], [Cl.i 2]]], [Cl.l [[Cl.i 1], Zbu]], [Cl.l [[Cl.i 2], Zbu, [Cl.i 1]]]]
def Zbs := [[Cl.l Zbo], [Cl.l [[Cl.l [[Cl.i 1], Zbu, Zbu]], [Cl.l [Zbu, [Cl.i 1]]], [Cl.l [Zbu, Zbu, [Cl.i 1]]]]]]
def Zbr := [[Cl.b false]]
def Xbh [W : InW]  (Q : DS -> Prop) : Prop :=
 Pre True (Pre True (Pre True (Pre True (Pre True (Pre True (Pre True (Pre True (Vif (decide (Sp.markE Zbn Zbp Zbt Zbq = Zb)) (Vif (decide (Sp.askE Zbn Zbp Zbt Zbo = Zb)) (Vif (decide (Sp.askE Zbn Zbp Zbt Zbo = Zb)) (Vif (decide (Sp.askE Zbn Zbp (8 : Int) Zbo = Zb)) (Vif (decide (Sp.lookE Zbn Zbp Zbt Zbo = Zb)) (Vif (decide (Sp.strE Zbn Zbp Zbt (2 : Int) = 0)) (Vif (decide (Sp.misE Zbn Zbp Zbt Zbs = Zb)) (Vif (decide (Sp.askE Zbn Zbp Zbt [] = (3 : Int))) (Pre (Sp.markR Zbn Zbp Zbt Zbq = [[Cl.i 7], [Cl.i 5]]) (Vif true (Vif (Sp.markB Zbn Zbp Zbt Zbq) (Vif (decide (Sp.ocA Zbn Zbp Zbt Zbo = (2 : Int))) (Pre (Sp.scA Zbn Zbp Zbt Zbo = [[Cl.i 3], [Cl.i 7], [Cl.i 8], [Cl.i 12]]) (Vif true (Pre (Sp.dcA Zbn Zbp (8 : Int) Zbo = [[Cl.i 2, Cl.i 0]]) (Vif true (Vif (decide ((Sp.lookR Zbn Zbp Zbt Zbo).a = 0) && (decide ((Sp.lookR Zbn Zbp Zbt Zbo).b = 2) && true)) (Vif (decide ((Sp.lookR Zbn Zbp Zbt Zbo).n = 2)) (Pre (Sp.strQ Zbn (Int.toNat (2 : Int)) = [[Cl.i 0, Cl.i 3, Cl.i 1, Cl.i 4, Cl.i 1], [Cl.i 0, Cl.i 2, Cl.i 0, Cl.i 3, Cl.i 0]] /\ Sp.strP Zbn Zbp (Int.toNat (2 : Int)) = [[Cl.i 3], [Cl.i (-5 : Int)]] /\ Sp.strA Zbn Zbt (Int.toNat (2 : Int)) = 2) (Vif true (Pre (Sp.misV Zbn Zbp Zbt Zbs = [[Cl.i 1, Cl.i 2], [Cl.i 1, Cl.i 1], [Cl.i 0, Cl.i 1]]) (Q [[Cl.b true]])) (Q Zbr))) (Q Zbr)) (Q Zbr)) (Q Zbr))) (Q Zbr))) (Q Zbr)) (Q Zbr)) (Q Zbr))) (Q Zbr)) (Q Zbr)) (Q Zbr)) (Q Zbr)) (Q Zbr)) (Q Zbr)) (Q Zbr)) (Q Zbr)))))))))
theorem Xjg (W : InW)  (Q : DS -> Prop) : Ywr (cxT Try.prog TT TM1 1000 50) 1000 22 [] [] 0 (Y01 [(false, [.bool])] Q) (fun _ _ _ _ => Stuck 421) = Xbh  Q := by kernel_rfl
abbrev Xiu : List AT := []
theorem Xkd {pre : DS -> Prop} {res : DS -> DS} (hyp_ : ∀ (W : InW) , pre [] -> ∀ Q : DS -> Prop, Q (res []) -> Xbh  Q) : PureOk Try.prog 22 Xiu [(false, [.bool])] pre res :=
 PureOk.of' (fun W => @TT W) (fun W => @Xe W) Xa TM1 1000 50 fun W hp =>
  (Xjg W  (fun o => o = res [])).mpr (hyp_ W  hp _ rfl)
end Go.Proofs.Ytifhdbgciehicaa

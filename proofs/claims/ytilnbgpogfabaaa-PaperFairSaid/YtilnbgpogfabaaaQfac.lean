/-
  'PaperFair': for every input the law returns true, and what is handed in reads as before. No condition.
-/
import Derived.Test.YtilnbgpogfabaaaQfab
set_option linter.unusedVariables false
set_option linter.unusedSectionVars false
set_option linter.unusedSimpArgs false
namespace Go.Proofs.Ytilnbgpogfabaaa
open Go.RowKit
set_option maxRecDepth 100000
set_option maxHeartbeats 1600000
noncomputable def TM1 : Tab Try.prog := ⟨[Xi4, Xi7, Xi6, Xi5, Xg1, Xi8, Xea, Xfs, Xk1], [], []⟩
abbrev lM1 (n : Int) : Pt := .lit (.int .i64 n)
abbrev vM1 [W : InW] (n : Int) : AV := .v (.int .i64 n)
def xsM1 [W : InW] (c : CC) : List AV := match insL c.args [] with | some x => x.1 | none => []
def ysM1 [W : InW] (c : CC) : Heap := match insH c.H [] with | some x => x.1 | none => []
def Zbu := [[Cl.i 0, Cl.i 10, Cl.i 2], [Cl.i 0, Cl.i 0, Cl.i 0], [Cl.i 1, Cl.i 10, Cl.i 3], [Cl.i 1, Cl.i 5, Cl.i 3], [Cl.i 1, Cl.i 5, Cl.i 2]]
def Zbv := [[Cl.i 1], [Cl.i 2]]
def Zby := (1000 : Int)
def Zbz := (1300 : Int)
def Zca := [[Cl.i 0], [Cl.i 0], [Cl.i 0]]
def Zbw := Sp.drawL Zbu Zbv Zby Zbz (1 : Int) (3 : Int) (1 : Int) Zca
def Zbx := [[Cl.b false]]
def Xy [W : InW]  (Q : DS -> Prop) : Prop :=
 Pre True (Pre True (Pre True (Pre True (Pre True (Pre True (Pre True (Pre True (Vif (decide (Sp.chkE Zbu Zbv Zby Zbz = 0)) (Vif (decide (Sp.chkE Zbu Zbv Zby Zbz = 0)) (Vif (decide (Sp.nthE Zbu Zbv Zby Zbz (2 : Int) = 0)) (Vif (decide (Sp.numE Zbu Zbv Zby Zbz [[Cl.i 0], [Cl.i 3], [Cl.i 4]] = Zk)) (Vif (decide (Sp.drawE Zbu Zbv Zby Zbz (1 : Int) (3 : Int) (1 : Int) Zca = Zk)) (Vif (decide (Sp.fairE Zbu Zbv Zby Zbz (2 : Int) = 0)) (Vif (decide (Sp.accE Zbu Zbv Zby Zbz (1 : Int) (3 : Int) Zk Zbw = 5)) (Vif (decide (Sp.accI Zbu Zbv Zby Zbz (1 : Int) (3 : Int) Zk Zbw = 1)) (Vif (decide (Sp.drawE Zbu Zbv Zby Zbz (1 : Int) (3 : Int) Zk Zca = (9 : Int))) (Pre True (Vif (Sp.eqI (Sp.wtsR Zbu Zbv Zby Zbz) [[Cl.i 200], [Cl.i 500], [Cl.i 300], [Cl.i 600], [Cl.i 400]]) (Vif (decide (Sp.cntR Zbu Zbv Zby Zbz = 3)) (Pre True (Vif (Sp.eqI (Sp.nthR Zbu Zbv Zby Zbz (2 : Int)) [[Cl.i 1], [Cl.i 2], [Cl.i 4]]) (Vif (decide (Sp.numR Zbu Zbv Zby Zbz [[Cl.i 0], [Cl.i 3], [Cl.i 4]] = (1 : Int))) (Pre True (Vif (Sp.eqL Zbw [[Cl.l [[Cl.i 0], [Cl.i 2], [Cl.i 3]]], [Cl.l [[Cl.i 1], [Cl.i 2], [Cl.i 4]]], [Cl.l [[Cl.i 0], [Cl.i 2], [Cl.i 3]]]]) (Q [[Cl.b (decide ((Sp.fairR Zbu Zbv Zby Zbz (2 : Int)).lo = 1200) && (decide ((Sp.fairR Zbu Zbv Zby Zbz (2 : Int)).hi = 1200) && true))]]) (Q Zbx))) (Q Zbx)) (Q Zbx))) (Q Zbx)) (Q Zbx))) (Q Zbx)) (Q Zbx)) (Q Zbx)) (Q Zbx)) (Q Zbx)) (Q Zbx)) (Q Zbx)) (Q Zbx)) (Q Zbx)))))))))
theorem Xgt (W : InW)  (Q : DS -> Prop) : Yw5 (cxT Try.prog TT TM1 1000 50) 1000 23 [] [] 0 (Y1i [(false, [.bool])] Q) (fun _ _ _ _ => Stuck 421) = Xy  Q := by kernel_rfl
abbrev Xf9 : List AT := []
theorem Xha {pre : DS -> Prop} {res : DS -> DS} (hyp_ : ∀ (W : InW) , pre [] -> ∀ Q : DS -> Prop, Q (res []) -> Xy  Q) : PureOk Try.prog 23 Xf9 [(false, [.bool])] pre res :=
 PureOk.of' (fun W => @TT W) (fun W => @Xc W) Xa TM1 1000 50 fun W hp =>
  (Xgt W  (fun o => o = res [])).mpr (hyp_ W  hp _ rfl)
end Go.Proofs.Ytilnbgpogfabaaa

/-
  'PaperCovered': for every input the law returns true, and what is handed in reads as before. No condition.
-/
import Derived.Test.YtilnbgpogfabaaaQcob
set_option linter.unusedVariables false
set_option linter.unusedSectionVars false
set_option linter.unusedSimpArgs false
namespace Go.Proofs.Ytilnbgpogfabaaa
open Go.RowKit
set_option maxRecDepth 100000
set_option maxHeartbeats 1600000
noncomputable def TM1 : Tab Try.prog := ⟨[Xhz, Xh1, Xe4, Xh0, Xdt, Xh2, Xf6, Xe6, Xjl], [], []⟩
abbrev lM1 (n : Int) : Pt := .lit (.int .i64 n)
abbrev vM1 [W : InW] (n : Int) : AV := .v (.int .i64 n)
def xsM1 [W : InW] (c : CC) : List AV := match insL c.args [] with | some x => x.1 | none => []
def ysM1 [W : InW] (c : CC) : Heap := match insH c.H [] with | some x => x.1 | none => []
def Zbt := [[Cl.i 0, Cl.i 10, Cl.i 2], [Cl.i 0, Cl.i 0, Cl.i 0], [Cl.i 1, Cl.i 10, Cl.i 3], [Cl.i 1, Cl.i 5, Cl.i 3], [Cl.i 1, Cl.i 5, Cl.i 2]]
def Zbu := [[Cl.i 1], [Cl.i 2]]
def Zbx := (1000 : Int)
def Zby := (1300 : Int)
def Zbz := [[Cl.i 0], [Cl.i 0], [Cl.i 0]]
def Zbv := Sp.drawL Zbt Zbu Zbx Zby (1 : Int) (3 : Int) (1 : Int) Zbz
def Zbw := [[Cl.b false]]
def Xw [W : InW]  (Q : DS -> Prop) : Prop :=
 Pre True (Pre True (Pre True (Pre True (Pre True (Pre True (Pre True (Pre True (Vif (decide (Sp.chkE Zbt Zbu Zbx Zby = 0)) (Vif (decide (Sp.chkE Zbt Zbu Zbx Zby = 0)) (Vif (decide (Sp.nthE Zbt Zbu Zbx Zby (2 : Int) = 0)) (Vif (decide (Sp.numE Zbt Zbu Zbx Zby [[Cl.i 0], [Cl.i 3], [Cl.i 4]] = Zk)) (Vif (decide (Sp.drawE Zbt Zbu Zbx Zby (1 : Int) (3 : Int) (1 : Int) Zbz = Zk)) (Vif (decide (Sp.fairE Zbt Zbu Zbx Zby (2 : Int) = 0)) (Vif (decide (Sp.accE Zbt Zbu Zbx Zby (1 : Int) (3 : Int) Zk Zbv = 5)) (Vif (decide (Sp.accI Zbt Zbu Zbx Zby (1 : Int) (3 : Int) Zk Zbv = 1)) (Vif (decide (Sp.drawE Zbt Zbu Zbx Zby (1 : Int) (3 : Int) Zk Zbz = (9 : Int))) (Pre True (Vif (Sp.eqI (Sp.wtsR Zbt Zbu Zbx Zby) [[Cl.i 200], [Cl.i 500], [Cl.i 300], [Cl.i 600], [Cl.i 400]]) (Vif (decide (Sp.cntR Zbt Zbu Zbx Zby = 3)) (Pre True (Vif (Sp.eqI (Sp.nthR Zbt Zbu Zbx Zby (2 : Int)) [[Cl.i 1], [Cl.i 2], [Cl.i 4]]) (Vif (decide (Sp.numR Zbt Zbu Zbx Zby [[Cl.i 0], [Cl.i 3], [Cl.i 4]] = (1 : Int))) (Pre True (Vif (Sp.eqL Zbv [[Cl.l [[Cl.i 0], [Cl.i 2], [Cl.i 3]]], [Cl.l [[Cl.i 1], [Cl.i 2], [Cl.i 4]]], [Cl.l [[Cl.i 0], [Cl.i 2], [Cl.i 3]]]]) (Q [[Cl.b (decide ((Sp.fairR Zbt Zbu Zbx Zby (2 : Int)).lo = 1200) && (decide ((Sp.fairR Zbt Zbu Zbx Zby (2 : Int)).hi = 1200) && true))]]) (Q Zbw))) (Q Zbw)) (Q Zbw))) (Q Zbw)) (Q Zbw))) (Q Zbw)) (Q Zbw)) (Q Zbw)) (Q Zbw)) (Q Zbw)) (Q Zbw)) (Q Zbw)) (Q Zbw)) (Q Zbw)))))))))
theorem Xf0 (W : InW)  (Q : DS -> Prop) : Yw5 (cxT Try.prog TT TM1 1000 50) 1000 23 [] [] 0 (Y1i [(false, [.bool])] Q) (fun _ _ _ _ => Stuck 421) = Xw  Q := by kernel_rfl
abbrev Xfm : List AT := []
theorem Xge {pre : DS -> Prop} {res : DS -> DS} (hyp_ : ∀ (W : InW) , pre [] -> ∀ Q : DS -> Prop, Q (res []) -> Xw  Q) : PureOk Try.prog 23 Xfm [(false, [.bool])] pre res :=
 PureOk.of' (fun W => @TT W) (fun W => @Xb W) Xa TM1 1000 50 fun W hp =>
  (Xf0 W  (fun o => o = res [])).mpr (hyp_ W  hp _ rfl)
end Go.Proofs.Ytilnbgpogfabaaa

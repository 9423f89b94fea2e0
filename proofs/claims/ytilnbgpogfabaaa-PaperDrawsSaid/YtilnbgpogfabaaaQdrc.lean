/-
  'PaperDraws': for every input the law returns true, and what is handed in reads as before. No condition.
-/
import Derived.Test.YtilnbgpogfabaaaQdrb
set_option linter.unusedVariables false
set_option linter.unusedSectionVars false
set_option linter.unusedSimpArgs false
namespace Go.Proofs.Ytilnbgpogfabaaa
open Go.RowKit
set_option maxRecDepth 100000
set_option maxHeartbeats 1600000
noncomputable def TM1 : Tab Try.prog := ⟨[Xjp, Xjs, Xjr, Xjq, Xeg, Xjt, Xhi, Xfq, Xii], [], []⟩
abbrev lM1 (n : Int) : Pt := .lit (.int .i64 n)
abbrev vM1 [W : InW] (n : Int) : AV := .v (.int .i64 n)
def xsM1 [W : InW] (c : CC) : List AV := match insL c.args [] with | some x => x.1 | none => []
def ysM1 [W : InW] (c : CC) : Heap := match insH c.H [] with | some x => x.1 | none => []
def Zbv := [[Cl.i 0, Cl.i 10, Cl.i 2], [Cl.i 0, Cl.i 0, Cl.i 0], [Cl.i 1, Cl.i 10, Cl.i 3], [Cl.i 1, Cl.i 5, Cl.i 3], [Cl.i 1, Cl.i 5, Cl.i 2]]
def Zbw := [[Cl.i 1], [Cl.i 2]]
def Zbz := (1000 : Int)
def Zca := (1300 : Int)
def Zcb := [[Cl.i 0], [Cl.i 0], [Cl.i 0]]
def Zbx := Sp.drawL Zbv Zbw Zbz Zca (1 : Int) (3 : Int) (1 : Int) Zcb
def Zby := [[Cl.b false]]
def Xx [W : InW]  (Q : DS -> Prop) : Prop :=
 Pre True (Pre True (Pre True (Pre True (Pre True (Pre True (Pre True (Pre True (Vif (decide (Sp.chkE Zbv Zbw Zbz Zca = 0)) (Vif (decide (Sp.chkE Zbv Zbw Zbz Zca = 0)) (Vif (decide (Sp.nthE Zbv Zbw Zbz Zca (2 : Int) = 0)) (Vif (decide (Sp.numE Zbv Zbw Zbz Zca [[Cl.i 0], [Cl.i 3], [Cl.i 4]] = Zk)) (Vif (decide (Sp.drawE Zbv Zbw Zbz Zca (1 : Int) (3 : Int) (1 : Int) Zcb = Zk)) (Vif (decide (Sp.fairE Zbv Zbw Zbz Zca (2 : Int) = 0)) (Vif (decide (Sp.accE Zbv Zbw Zbz Zca (1 : Int) (3 : Int) Zk Zbx = 5)) (Vif (decide (Sp.accI Zbv Zbw Zbz Zca (1 : Int) (3 : Int) Zk Zbx = 1)) (Vif (decide (Sp.drawE Zbv Zbw Zbz Zca (1 : Int) (3 : Int) Zk Zcb = (9 : Int))) (Pre True (Vif (Sp.eqI (Sp.wtsR Zbv Zbw Zbz Zca) [[Cl.i 200], [Cl.i 500], [Cl.i 300], [Cl.i 600], [Cl.i 400]]) (Vif (decide (Sp.cntR Zbv Zbw Zbz Zca = 3)) (Pre True (Vif (Sp.eqI (Sp.nthR Zbv Zbw Zbz Zca (2 : Int)) [[Cl.i 1], [Cl.i 2], [Cl.i 4]]) (Vif (decide (Sp.numR Zbv Zbw Zbz Zca [[Cl.i 0], [Cl.i 3], [Cl.i 4]] = (1 : Int))) (Pre True (Vif (Sp.eqL Zbx [[Cl.l [[Cl.i 0], [Cl.i 2], [Cl.i 3]]], [Cl.l [[Cl.i 1], [Cl.i 2], [Cl.i 4]]], [Cl.l [[Cl.i 0], [Cl.i 2], [Cl.i 3]]]]) (Q [[Cl.b (decide ((Sp.fairR Zbv Zbw Zbz Zca (2 : Int)).lo = 1200) && (decide ((Sp.fairR Zbv Zbw Zbz Zca (2 : Int)).hi = 1200) && true))]]) (Q Zby))) (Q Zby)) (Q Zby))) (Q Zby)) (Q Zby))) (Q Zby)) (Q Zby)) (Q Zby)) (Q Zby)) (Q Zby)) (Q Zby)) (Q Zby)) (Q Zby)) (Q Zby)))))))))
theorem Xg4 (W : InW)  (Q : DS -> Prop) : Yw5 (cxT Try.prog TT TM1 1000 50) 1000 23 [] [] 0 (Y1i [(false, [.bool])] Q) (fun _ _ _ _ => Stuck 421) = Xx  Q := by kernel_rfl
abbrev Xgf : List AT := []
theorem Xhr {pre : DS -> Prop} {res : DS -> DS} (hyp_ : ∀ (W : InW) , pre [] -> ∀ Q : DS -> Prop, Q (res []) -> Xx  Q) : PureOk Try.prog 23 Xgf [(false, [.bool])] pre res :=
 PureOk.of' (fun W => @TT W) (fun W => @Xb W) Xa TM1 1000 50 fun W hp =>
  (Xg4 W  (fun o => o = res [])).mpr (hyp_ W  hp _ rfl)
end Go.Proofs.Ytilnbgpogfabaaa

/-
  'PaperNumbers': for every input the law returns true, and what is handed in reads as before. No condition.
-/
import Derived.Test.YtilnbgpogfabaaaQnub
set_option linter.unusedVariables false
set_option linter.unusedSectionVars false
set_option linter.unusedSimpArgs false
namespace Go.Proofs.Ytilnbgpogfabaaa
open Go.RowKit
set_option maxRecDepth 100000
set_option maxHeartbeats 1600000
noncomputable def TM1 : Tab Try.prog := ⟨[Xj2, Xj3, Xgb, Xga, Xhq, Xj4, Xeq, Xbk, Xl4], [], []⟩
abbrev lM1 (n : Int) : Pt := .lit (.int .i64 n)
abbrev vM1 [W : InW] (n : Int) : AV := .v (.int .i64 n)
def xsM1 [W : InW] (c : CC) : List AV := match insL c.args [] with | some x => x.1 | none => []
def ysM1 [W : InW] (c : CC) : Heap := match insH c.H [] with | some x => x.1 | none => []
def Zby := [[Cl.i 0, Cl.i 10, Cl.i 2], [Cl.i 0, Cl.i 0, Cl.i 0], [Cl.i 1, Cl.i 10, Cl.i 3], [Cl.i 1, Cl.i 5, Cl.i 3], [Cl.i 1, Cl.i 5, Cl.i 2]]
def Zbz := [[Cl.i 1], [Cl.i 2]]
def Zcc := (1000 : Int)
def Zcd := (1300 : Int)
def Zce := [[Cl.i 0], [Cl.i 0], [Cl.i 0]]
def Zca := Sp.drawL Zby Zbz Zcc Zcd (1 : Int) (3 : Int) (1 : Int) Zce
def Zcb := [[Cl.b false]]
def X0 [W : InW]  (Q : DS -> Prop) : Prop :=
 Pre True (Pre True (Pre True (Pre True (Pre True (Pre True (Pre True (Pre True (Vif (decide (Sp.chkE Zby Zbz Zcc Zcd = 0)) (Vif (decide (Sp.chkE Zby Zbz Zcc Zcd = 0)) (Vif (decide (Sp.nthE Zby Zbz Zcc Zcd (2 : Int) = 0)) (Vif (decide (Sp.numE Zby Zbz Zcc Zcd [[Cl.i 0], [Cl.i 3], [Cl.i 4]] = Zk)) (Vif (decide (Sp.drawE Zby Zbz Zcc Zcd (1 : Int) (3 : Int) (1 : Int) Zce = Zk)) (Vif (decide (Sp.fairE Zby Zbz Zcc Zcd (2 : Int) = 0)) (Vif (decide (Sp.accE Zby Zbz Zcc Zcd (1 : Int) (3 : Int) Zk Zca = 5)) (Vif (decide (Sp.accI Zby Zbz Zcc Zcd (1 : Int) (3 : Int) Zk Zca = 1)) (Vif (decide (Sp.drawE Zby Zbz Zcc Zcd (1 : Int) (3 : Int) Zk Zce = (9 : Int))) (Pre True (Vif (Sp.eqI (Sp.wtsR Zby Zbz Zcc Zcd) [[Cl.i 200], [Cl.i 500], [Cl.i 300], [Cl.i 600], [Cl.i 400]]) (Vif (decide (Sp.cntR Zby Zbz Zcc Zcd = 3)) (Pre True (Vif (Sp.eqI (Sp.nthR Zby Zbz Zcc Zcd (2 : Int)) [[Cl.i 1], [Cl.i 2], [Cl.i 4]]) (Vif (decide (Sp.numR Zby Zbz Zcc Zcd [[Cl.i 0], [Cl.i 3], [Cl.i 4]] = (1 : Int))) (Pre True (Vif (Sp.eqL Zca [[Cl.l [[Cl.i 0], [Cl.i 2], [Cl.i 3]]], [Cl.l [[Cl.i 1], [Cl.i 2], [Cl.i 4]]], [Cl.l [[Cl.i 0], [Cl.i 2], [Cl.i 3]]]]) (Q [[Cl.b (decide ((Sp.fairR Zby Zbz Zcc Zcd (2 : Int)).lo = 1200) && (decide ((Sp.fairR Zby Zbz Zcc Zcd (2 : Int)).hi = 1200) && true))]]) (Q Zcb))) (Q Zcb)) (Q Zcb))) (Q Zcb)) (Q Zcb))) (Q Zcb)) (Q Zcb)) (Q Zcb)) (Q Zcb)) (Q Zcb)) (Q Zcb)) (Q Zcb)) (Q Zcb)) (Q Zcb)))))))))
theorem Xhg (W : InW)  (Q : DS -> Prop) : Yw5 (cxT Try.prog TT TM1 1000 50) 1000 23 [] [] 0 (Y1i [(false, [.bool])] Q) (fun _ _ _ _ => Stuck 421) = X0  Q := by kernel_rfl
abbrev Xgv : List AT := []
theorem Xh0 {pre : DS -> Prop} {res : DS -> DS} (hyp_ : ∀ (W : InW) , pre [] -> ∀ Q : DS -> Prop, Q (res []) -> X0  Q) : PureOk Try.prog 23 Xgv [(false, [.bool])] pre res :=
 PureOk.of' (fun W => @TT W) (fun W => @Xb W) Xa TM1 1000 50 fun W hp =>
  (Xhg W  (fun o => o = res [])).mpr (hyp_ W  hp _ rfl)
end Go.Proofs.Ytilnbgpogfabaaa

/-
  'PaperNeighbours': for every input the law returns true, and what is handed in reads as before. No condition.
-/
import Derived.Test.YtilnbgpogfabaaaQnbb
set_option linter.unusedVariables false
set_option linter.unusedSectionVars false
set_option linter.unusedSimpArgs false
namespace Go.Proofs.Ytilnbgpogfabaaa
open Go.RowKit
set_option maxRecDepth 100000
set_option maxHeartbeats 1600000
noncomputable def TM1 : Tab Try.prog := ⟨[Xgk, Xdy, Xgm, Xgl, Xc5, Xd0, Xex, Xd1, Xfl], [], []⟩
abbrev lM1 (n : Int) : Pt := .lit (.int .i64 n)
abbrev vM1 [W : InW] (n : Int) : AV := .v (.int .i64 n)
def xsM1 [W : InW] (c : CC) : List AV := match insL c.args [] with | some x => x.1 | none => []
def ysM1 [W : InW] (c : CC) : Heap := match insH c.H [] with | some x => x.1 | none => []
def Zbl := [[Cl.i 0, Cl.i 10, Cl.i 2], [Cl.i 0, Cl.i 0, Cl.i 0], [Cl.i 1, Cl.i 10, Cl.i 3], [Cl.i 1, Cl.i 5, Cl.i 3], [Cl.i 1, Cl.i 5, Cl.i 2]]
def Zbm := [[Cl.i 1], [Cl.i 2]]
def Zbp := (1000 : Int)
def Zbq := (1300 : Int)
def Zbr := [[Cl.i 0], [Cl.i 0], [Cl.i 0]]
def Zbn := Sp.drawL Zbl Zbm Zbp Zbq (1 : Int) (3 : Int) (1 : Int) Zbr
def Zbo := [[Cl.b false]]
def Xt [W : InW]  (Q : DS -> Prop) : Prop :=
 Pre True (Pre True (Pre True (Pre True (Pre True (Pre True (Pre True (Pre True (Vif (decide (Sp.chkE Zbl Zbm Zbp Zbq = 0)) (Vif (decide (Sp.chkE Zbl Zbm Zbp Zbq = 0)) (Vif (decide (Sp.nthE Zbl Zbm Zbp Zbq (2 : Int) = 0)) (Vif (decide (Sp.numE Zbl Zbm Zbp Zbq [[Cl.i 0], [Cl.i 3], [Cl.i 4]] = Zi)) (Vif (decide (Sp.drawE Zbl Zbm Zbp Zbq (1 : Int) (3 : Int) (1 : Int) Zbr = Zi)) (Vif (decide (Sp.fairE Zbl Zbm Zbp Zbq (2 : Int) = 0)) (Vif (decide (Sp.accE Zbl Zbm Zbp Zbq (1 : Int) (3 : Int) Zi Zbn = 5)) (Vif (decide (Sp.accI Zbl Zbm Zbp Zbq (1 : Int) (3 : Int) Zi Zbn = 1)) (Vif (decide (Sp.drawE Zbl Zbm Zbp Zbq (1 : Int) (3 : Int) Zi Zbr = (9 : Int))) (Pre True (Vif (Sp.eqI (Sp.wtsR Zbl Zbm Zbp Zbq) [[Cl.i 200], [Cl.i 500], [Cl.i 300], [Cl.i 600], [Cl.i 400]]) (Vif (decide (Sp.cntR Zbl Zbm Zbp Zbq = 3)) (Pre True (Vif (Sp.eqI (Sp.nthR Zbl Zbm Zbp Zbq (2 : Int)) [[Cl.i 1], [Cl.i 2], [Cl.i 4]]) (Vif (decide (Sp.numR Zbl Zbm Zbp Zbq [[Cl.i 0], [Cl.i 3], [Cl.i 4]] = (1 : Int))) (Pre True (Vif (Sp.eqL Zbn [[Cl.l [[Cl.i 0], [Cl.i 2], [Cl.i 3]]], [Cl.l [[Cl.i 1], [Cl.i 2], [Cl.i 4]]], [Cl.l [[Cl.i 0], [Cl.i 2], [Cl.i 3]]]]) (Q [[Cl.b (decide ((Sp.fairR Zbl Zbm Zbp Zbq (2 : Int)).lo = 1200) && (decide ((Sp.fairR Zbl Zbm Zbp Zbq (2 : Int)).hi = 1200) && true))]]) (Q Zbo))) (Q Zbo)) (Q Zbo))) (Q Zbo)) (Q Zbo))) (Q Zbo)) (Q Zbo)) (Q Zbo)) (Q Zbo)) (Q Zbo)) (Q Zbo)) (Q Zbo)) (Q Zbo)) (Q Zbo)))))))))
theorem Xeq (W : InW)  (Q : DS -> Prop) : Yw5 (cxT Try.prog TT TM1 1000 50) 1000 23 [] [] 0 (Y1i [(false, [.bool])] Q) (fun _ _ _ _ => Stuck 421) = Xt  Q := by kernel_rfl
abbrev Xec : List AT := []
theorem Xe5 {pre : DS -> Prop} {res : DS -> DS} (hyp_ : ∀ (W : InW) , pre [] -> ∀ Q : DS -> Prop, Q (res []) -> Xt  Q) : PureOk Try.prog 23 Xec [(false, [.bool])] pre res :=
 PureOk.of' (fun W => @TT W) (fun W => @Xc W) Xa TM1 1000 50 fun W hp =>
  (Xeq W  (fun o => o = res [])).mpr (hyp_ W  hp _ rfl)
end Go.Proofs.Ytilnbgpogfabaaa

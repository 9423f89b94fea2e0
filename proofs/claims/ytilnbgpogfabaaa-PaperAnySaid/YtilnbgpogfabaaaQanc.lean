/-
  'PaperAny': for every input the law returns true, and what is handed in reads as before. No condition.
-/
import Derived.Test.YtilnbgpogfabaaaQanb
set_option linter.unusedVariables false
set_option linter.unusedSectionVars false
set_option linter.unusedSimpArgs false
namespace Go.Proofs.Ytilnbgpogfabaaa
open Go.RowKit
set_option maxRecDepth 100000
set_option maxHeartbeats 1600000
noncomputable def TM1 : Tab Try.prog := ⟨[Xha, Xem, Xel, Xek, Xfl, Xhb, Xfk, Xb4, Xin], [], []⟩
abbrev lM1 (n : Int) : Pt := .lit (.int .i64 n)
abbrev vM1 [W : InW] (n : Int) : AV := .v (.int .i64 n)
def xsM1 [W : InW] (c : CC) : List AV := match insL c.args [] with | some x => x.1 | none => []
def ysM1 [W : InW] (c : CC) : Heap := match insH c.H [] with | some x => x.1 | none => []
def Zbo := [[Cl.i 0, Cl.i 10, Cl.i 2], [Cl.i 0, Cl.i 0, Cl.i 0], [Cl.i 1, Cl.i 10, Cl.i 3], [Cl.i 1, Cl.i 5, Cl.i 3], [Cl.i 1, Cl.i 5, Cl.i 2]]
def Zbp := [[Cl.i 1], [Cl.i 2]]
def Zbs := (1000 : Int)
def Zbt := (1300 : Int)
def Zbu := [[Cl.i 0], [Cl.i 0], [Cl.i 0]]
def Zbq := Sp.drawL Zbo Zbp Zbs Zbt (1 : Int) (3 : Int) (1 : Int) Zbu
def Zbr := [[Cl.b false]]
def Xw [W : InW]  (Q : DS -> Prop) : Prop :=
 Pre True (Pre True (Pre True (Pre True (Pre True (Pre True (Pre True (Pre True (Vif (decide (Sp.chkE Zbo Zbp Zbs Zbt = 0)) (Vif (decide (Sp.chkE Zbo Zbp Zbs Zbt = 0)) (Vif (decide (Sp.nthE Zbo Zbp Zbs Zbt (2 : Int) = 0)) (Vif (decide (Sp.numE Zbo Zbp Zbs Zbt [[Cl.i 0], [Cl.i 3], [Cl.i 4]] = Zk)) (Vif (decide (Sp.drawE Zbo Zbp Zbs Zbt (1 : Int) (3 : Int) (1 : Int) Zbu = Zk)) (Vif (decide (Sp.fairE Zbo Zbp Zbs Zbt (2 : Int) = 0)) (Vif (decide (Sp.accE Zbo Zbp Zbs Zbt (1 : Int) (3 : Int) Zk Zbq = 5)) (Vif (decide (Sp.accI Zbo Zbp Zbs Zbt (1 : Int) (3 : Int) Zk Zbq = 1)) (Vif (decide (Sp.drawE Zbo Zbp Zbs Zbt (1 : Int) (3 : Int) Zk Zbu = (9 : Int))) (Pre True (Vif (Sp.eqI (Sp.wtsR Zbo Zbp Zbs Zbt) [[Cl.i 200], [Cl.i 500], [Cl.i 300], [Cl.i 600], [Cl.i 400]]) (Vif (decide (Sp.cntR Zbo Zbp Zbs Zbt = 3)) (Pre True (Vif (Sp.eqI (Sp.nthR Zbo Zbp Zbs Zbt (2 : Int)) [[Cl.i 1], [Cl.i 2], [Cl.i 4]]) (Vif (decide (Sp.numR Zbo Zbp Zbs Zbt [[Cl.i 0], [Cl.i 3], [Cl.i 4]] = (1 : Int))) (Pre True (Vif (Sp.eqL Zbq [[Cl.l [[Cl.i 0], [Cl.i 2], [Cl.i 3]]], [Cl.l [[Cl.i 1], [Cl.i 2], [Cl.i 4]]], [Cl.l [[Cl.i 0], [Cl.i 2], [Cl.i 3]]]]) (Q [[Cl.b (decide ((Sp.fairR Zbo Zbp Zbs Zbt (2 : Int)).lo = 1200) && (decide ((Sp.fairR Zbo Zbp Zbs Zbt (2 : Int)).hi = 1200) && true))]]) (Q Zbr))) (Q Zbr)) (Q Zbr))) (Q Zbr)) (Q Zbr))) (Q Zbr)) (Q Zbr)) (Q Zbr)) (Q Zbr)) (Q Zbr)) (Q Zbr)) (Q Zbr)) (Q Zbr)) (Q Zbr)))))))))
theorem Xfe (W : InW)  (Q : DS -> Prop) : Yw5 (cxT Try.prog TT TM1 1000 50) 1000 23 [] [] 0 (Y1i [(false, [.bool])] Q) (fun _ _ _ _ => Stuck 421) = Xw  Q := by kernel_rfl
abbrev Xe0 : List AT := []
theorem Xfu {pre : DS -> Prop} {res : DS -> DS} (hyp_ : ∀ (W : InW) , pre [] -> ∀ Q : DS -> Prop, Q (res []) -> Xw  Q) : PureOk Try.prog 23 Xe0 [(false, [.bool])] pre res :=
 PureOk.of' (fun W => @TT W) (fun W => @Xc W) Xa TM1 1000 50 fun W hp =>
  (Xfe W  (fun o => o = res [])).mpr (hyp_ W  hp _ rfl)
end Go.Proofs.Ytilnbgpogfabaaa

/-
  'CourseKnown': for every input the law returns true, and what is handed in reads as before. No condition.
-/
import Derived.Test.YtmogofidmchdoaaQi
set_option linter.unusedVariables false
set_option linter.unusedSectionVars false
set_option linter.unusedSimpArgs false
namespace Go.Proofs.Ytmogofidmchdoaa
open Go.RowKit
set_option maxRecDepth 100000
set_option maxHeartbeats 1600000
noncomputable def TM2 : Tab Try.prog := ⟨[Ybbp, Y3z, Ybbo, Y6p, Y6r, Y30, Y6s, pc_Awake], [], []⟩
abbrev lM2 (n : Int) : Pt := .lit (.int .i64 n)
abbrev vM2 [W : InW] (n : Int) : AV := .v (.int .i64 n)
def xsM2 [W : InW] (c : CC) : List AV := match insL c.args [] with | some x => x.1 | none => []
def ysM2 [W : InW] (c : CC) : Heap := match insH c.H [] with | some x => x.1 | none => []
def Zej := [Zeg, [Cl.i Zed]]
def Xa [W : InW]  (Q : DS -> Prop) : Prop :=
 Pre Zeb (Pre Zeb (Pre Zeb (Pre Zeb (Pre Zeb (Pre Zeb (Vif (decide (Sp.haE Zdw Zdz Zea Zdv Zf Zdy Zdx Zf = Zf)) (Vif (decide (Sp.haE Zdw Zdz Zea Zdv Zf Zdy Zdx Zef = Zf)) (Vif (decide (Sp.pairE Zdw Zdz Zea Zdv Zf Zdy Zdx Zf Zef = Zf)) (Vif (decide (Sp.pkE Zdw Zdz Zea Zdv Zf Zdy Zdx Zef Zf Zef Zf = Zf)) (Vif (decide (Sp.pkE Zdw Zdz Zea Zdv Zf Zdy Zdx (3 : Int) Zf Zf Zf = Zf)) (Vif (decide (Sp.dbE Zdw Zdz Zea Zdv Zf Zdy Zdx Zej (11 : Int) = Zf)) (Vif (decide (Sp.hvLo Zdw Zdz Zea Zdv Zf Zdy Zdx Zf = (35 : Int)) && (decide (Sp.hvHi Zdw Zdz Zea Zdv Zf Zdy Zdx Zf = (125 : Int)) && true)) (Vif (decide (Sp.hvLo Zdw Zdz Zea Zdv Zf Zdy Zdx Zef = (55 : Int)) && (decide (Sp.hvHi Zdw Zdz Zea Zdv Zf Zdy Zdx Zef = (155 : Int)) && true)) (Pre True (Vif (Sp.ints (Sp.pdL Zdw Zdz Zea Zdv Zf Zdy Zdx Zf Zef) [Zeg]) (Pre True (Vif (decide (Sp.pkB Zdw Zdz Zea Zdv Zf Zdy Zdx Zef Zf Zef Zf = (23 : Int)) && Sp.ints (Sp.pkL Zdw Zdz Zea Zdv Zf Zdy Zdx Zef Zf Zef Zf) [[Cl.i Zed], [Cl.i Zef]]) (Pre True (Vif (decide (Sp.pkB Zdw Zdz Zea Zdv Zf Zdy Zdx (3 : Int) Zf Zf Zf = (30 : Int)) && Sp.ints (Sp.pkL Zdw Zdz Zea Zdv Zf Zdy Zdx (3 : Int) Zf Zf Zf) [Zeg, [Cl.i Zed], [Cl.i Zef]]) (Pre True (Vif (decide (Sp.ddA Zdw Zdz Zea Zdv Zf Zdy Zdx Zej (11 : Int) = (-1 : Int)) && (decide (Sp.ddB Zdw Zdz Zea Zdv Zf Zdy Zdx Zej (11 : Int) = (-1 : Int)) && Sp.ints (Sp.ddT Zdw Zdz Zea Zdv Zf Zdy Zdx Zej (11 : Int)) [])) (Pre True (Q [[Cl.b true]])) (Q Zee))) (Q Zee))) (Q Zee))) (Q Zee))) (Q Zee)) (Q Zee)) (Q Zee)) (Q Zee)) (Q Zee)) (Q Zee)) (Q Zee)) (Q Zee)))))))
theorem Xd (W : InW)  (Q : DS -> Prop) : Ybh (cxT Try.prog TT TM2 1000 50) 1000 5 [] [] 0 (Ybj [(false, [.bool])] Q) (fun _ _ _ _ => Stuck 421) = Xa  Q := by kernel_rfl
abbrev Xb : List AT := []
theorem Xe {pre : DS -> Prop} {res : DS -> DS} (hyp_ : ∀ (W : InW) , pre [] -> ∀ Q : DS -> Prop, Q (res []) -> Xa  Q) : PureOk Try.prog 5 Xb [(false, [.bool])] pre res :=
 PureOk.of' (fun W => @TT W) (fun W => @Yo W) Yd TM2 1000 50 fun W hp =>
  (Xd W  (fun o => o = res [])).mpr (hyp_ W  hp _ rfl)
theorem Xf [W : InW] (Q : DS -> Prop) (h : Q [[.b true]]) : Xa Q := by
 unfold Xa;delta Zej Zdv Zeg Zdx Zdy Zeb Zee Zed Zf Zef Zea Zdz Zdw
 repeat first | refine vif_t (by kernel_rfl) ?_ | refine Ykw.2 ⟨⟨Ym7 (by kernel_rfl), Ym7 (by kernel_rfl), Ym7 (by kernel_rfl)⟩, ?_⟩ | refine Ykw.2 ⟨trivial, ?_⟩ | refine Ykw.2 ⟨by decide +kernel, ?_⟩
 exact (congrArg Q (by kernel_rfl)).mpr h
theorem Xc : PureOk Try.prog 5 Xb [(false, [.bool])] (WfD Xb) fun _ => [[.b true]] :=
 Xe fun W hp Q h => Xf Q h
end Go.Proofs.Ytmogofidmchdoaa

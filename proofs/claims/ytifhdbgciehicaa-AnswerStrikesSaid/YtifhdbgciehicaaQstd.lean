/-
  'AnswerStrikes': for every input the law returns true, and what is handed in reads as before. No condition.
-/
import Derived.Test.YtifhdbgciehicaaQstc
set_option linter.unusedVariables false
set_option linter.unusedSectionVars false
set_option linter.unusedSimpArgs false
namespace Go.Proofs.Ytifhdbgciehicaa
open Go.RowKit
set_option maxRecDepth 100000
set_option maxHeartbeats 1600000
noncomputable def TM1 : Tab Try.prog := ⟨[Xme, Xmd, Xmc, Xmf, Xjo, Xz, Xhm, Xdh, Xjp, Xfn, Xho], [], []⟩
abbrev lM1 (n : Int) : Pt := .lit (.int .i64 n)
abbrev vM1 [W : InW] (n : Int) : AV := .v (.int .i64 n)
def xsM1 [W : InW] (c : CC) : List AV := match insL c.args [] with | some x => x.1 | none => []
def ysM1 [W : InW] (c : CC) : Heap := match insH c.H [] with | some x => x.1 | none => []
def Zfi := [[Cl.i 0, Cl.i 3, Cl.i 1, Cl.i 4, Cl.i 1], [Cl.i 0, Cl.i 2, Cl.i 0, Cl.i 3, Cl.i 0], [Cl.i 1, Cl.i 3, Cl.i 2, Cl.i 5, Cl.i 2]]
def Zfp := [Cl.i 0]
def Zfk := [[Cl.i 3], Zfp]
def Zfo := (7 : Int)
def Zfl := [[Cl.l [Zfp, [Cl.i 1], Zfp]], [Cl.l [[Cl.i 1], Zfp]], [Cl.l [Zfp, Zfp, [Cl.i 1]]]]
def Zfj := [[Cl.l [Zfp, [Cl.i 1], [Cl.i 2]]], [Cl.l [[Cl.i 1], Zfp]], [Cl.l [[Cl.i 2], Zfp, [Cl.i 1]]]]
def Zfn := [[Cl.l Zfj], [Cl.l [[Cl.l [[Cl.i 1], Zfp, Zfp]], [Cl.l [Zfp, [Cl.i 1]]], [Cl.l [Zfp, Zfp, [Cl.i 1]]]]]]
def Zfm := [[Cl.b false]]
def Xbe [W : InW]  (Q : DS -> Prop) : Prop :=
 Pre True (Pre True (Pre True (Pre True (Pre True (Pre True (Pre True (Pre True (Vif (decide (Sp.markE Zfi Zfk Zfo Zfl = Zb)) (Vif (decide (Sp.askE Zfi Zfk Zfo Zfj = Zb)) (Vif (decide (Sp.askE Zfi Zfk Zfo Zfj = Zb)) (Vif (decide (Sp.askE Zfi Zfk (8 : Int) Zfj = Zb)) (Vif (decide (Sp.lookE Zfi Zfk Zfo Zfj = Zb)) (Vif (decide (Sp.strE Zfi Zfk Zfo (2 : Int) = 0)) (Vif (decide (Sp.misE Zfi Zfk Zfo Zfn = Zb)) (Vif (decide (Sp.askE Zfi Zfk Zfo [] = (3 : Int))) (Pre (Sp.markR Zfi Zfk Zfo Zfl = [[Cl.i 7], [Cl.i 5]]) (Vif true (Vif (Sp.markB Zfi Zfk Zfo Zfl) (Vif (decide (Sp.ocA Zfi Zfk Zfo Zfj = (2 : Int))) (Pre (Sp.scA Zfi Zfk Zfo Zfj = [[Cl.i 3], [Cl.i 7], [Cl.i 8], [Cl.i 12]]) (Vif true (Pre (Sp.dcA Zfi Zfk (8 : Int) Zfj = [[Cl.i 2, Cl.i 0]]) (Vif true (Vif (decide ((Sp.lookR Zfi Zfk Zfo Zfj).a = 0) && (decide ((Sp.lookR Zfi Zfk Zfo Zfj).b = 2) && true)) (Vif (decide ((Sp.lookR Zfi Zfk Zfo Zfj).n = 2)) (Pre (Sp.strQ Zfi (Int.toNat (2 : Int)) = [[Cl.i 0, Cl.i 3, Cl.i 1, Cl.i 4, Cl.i 1], [Cl.i 0, Cl.i 2, Cl.i 0, Cl.i 3, Cl.i 0]] /\ Sp.strP Zfi Zfk (Int.toNat (2 : Int)) = [[Cl.i 3], [Cl.i (-5 : Int)]] /\ Sp.strA Zfi Zfo (Int.toNat (2 : Int)) = 2) (Vif true (Pre (Sp.misV Zfi Zfk Zfo Zfn = [[Cl.i 1, Cl.i 2], [Cl.i 1, Cl.i 1], [Cl.i 0, Cl.i 1]]) (Q [[Cl.b true]])) (Q Zfm))) (Q Zfm)) (Q Zfm)) (Q Zfm))) (Q Zfm))) (Q Zfm)) (Q Zfm)) (Q Zfm))) (Q Zfm)) (Q Zfm)) (Q Zfm)) (Q Zfm)) (Q Zfm)) (Q Zfm)) (Q Zfm)) (Q Zfm)))))))))
theorem Xjb (W : InW)  (Q : DS -> Prop) : Ywr (cxT Try.prog TT TM1 1000 50) 1000 22 [] [] 0 (Y01 [(false, [.bool])] Q) (fun _ _ _ _ => Stuck 421) = Xbe  Q := by kernel_rfl
abbrev Xij : List AT := []
theorem Xj6 {pre : DS -> Prop} {res : DS -> DS} (hyp_ : ∀ (W : InW) , pre [] -> ∀ Q : DS -> Prop, Q (res []) -> Xbe  Q) : PureOk Try.prog 22 Xij [(false, [.bool])] pre res :=
 PureOk.of' (fun W => @TT W) (fun W => @Xe W) Xa TM1 1000 50 fun W hp =>
  (Xjb W  (fun o => o = res [])).mpr (hyp_ W  hp _ rfl)
end Go.Proofs.Ytifhdbgciehicaa

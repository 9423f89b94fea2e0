/-
  'AnswerLooks': for every input the law returns true, and what is handed in reads as before. No condition.
-/
import Derived.Test.YtifhdbgciehicaaQloc
set_option linter.unusedVariables false
set_option linter.unusedSectionVars false
set_option linter.unusedSimpArgs false
namespace Go.Proofs.Ytifhdbgciehicaa
open Go.RowKit
set_option maxRecDepth 100000
set_option maxHeartbeats 1600000
noncomputable def TM1 : Tab Try.prog := ⟨[Xnu, Xnt, Xns, Xiy, Xgl, Xnr, Xnv, Xd3, Xgn, Xkz, Xnx], [], []⟩
abbrev lM1 (n : Int) : Pt := .lit (.int .i64 n)
abbrev vM1 [W : InW] (n : Int) : AV := .v (.int .i64 n)
def xsM1 [W : InW] (c : CC) : List AV := match insL c.args [] with | some x => x.1 | none => []
def ysM1 [W : InW] (c : CC) : Heap := match insH c.H [] with | some x => x.1 | none => []
def Zfj := [[Cl.i 0, Cl.i 3, Cl.i 1, Cl.i 4, Cl.i 1], [Cl.i 0, Cl.i 2, Cl.i 0, Cl.i 3, Cl.i 0], [Cl.i 1, Cl.i 3, Cl.i 2, Cl.i 5, Cl.i 2]]
def Zfq := [Cl.i 0]
def Zfl := [[Cl.i 3], Zfq]
def Zfp := (7 : Int)
def Zfm := [[Cl.l [Zfq, [Cl.i 1], Zfq]], [Cl.l [[Cl.i 1], Zfq]], [Cl.l [Zfq, Zfq, [Cl.i 1]]]]
def Zfk := [[Cl.l [Zfq, [Cl.i 1], [Cl.i 2]]], [Cl.l [[Cl.i 1], Zfq]], [Cl.l [[Cl.i 2], Zfq, [Cl.i 1]]]]
def Zfo := [[Cl.l Zfk], [Cl.l [[Cl.l [[Cl.i 1], Zfq, Zfq]], [Cl.l [Zfq, [Cl.i 1]]], [Cl.l [Zfq, Zfq, [Cl.i 1]]]]]]
def Zfn := [[Cl.b false]]
def Xbk [W : InW]  (Q : DS -> Prop) : Prop :=
 Pre True (Pre True (Pre True (Pre True (Pre True (Pre True (Pre True (Pre True (Vif (decide (Sp.markE Zfj Zfl Zfp Zfm = Zb)) (Vif (decide (Sp.askE Zfj Zfl Zfp Zfk = Zb)) (Vif (decide (Sp.askE Zfj Zfl Zfp Zfk = Zb)) (Vif (decide (Sp.askE Zfj Zfl (8 : Int) Zfk = Zb)) (Vif (decide (Sp.lookE Zfj Zfl Zfp Zfk = Zb)) (Vif (decide (Sp.strE Zfj Zfl Zfp (2 : Int) = 0)) (Vif (decide (Sp.misE Zfj Zfl Zfp Zfo = Zb)) (Vif (decide (Sp.askE Zfj Zfl Zfp [] = (3 : Int))) (Pre (Sp.markR Zfj Zfl Zfp Zfm = [[Cl.i 7], [Cl.i 5]]) (Vif true (Vif (Sp.markB Zfj Zfl Zfp Zfm) (Vif (decide (Sp.ocA Zfj Zfl Zfp Zfk = (2 : Int))) (Pre (Sp.scA Zfj Zfl Zfp Zfk = [[Cl.i 3], [Cl.i 7], [Cl.i 8], [Cl.i 12]]) (Vif true (Pre (Sp.dcA Zfj Zfl (8 : Int) Zfk = [[Cl.i 2, Cl.i 0]]) (Vif true (Vif (decide ((Sp.lookR Zfj Zfl Zfp Zfk).a = 0) && (decide ((Sp.lookR Zfj Zfl Zfp Zfk).b = 2) && true)) (Vif (decide ((Sp.lookR Zfj Zfl Zfp Zfk).n = 2)) (Pre (Sp.strQ Zfj (Int.toNat (2 : Int)) = [[Cl.i 0, Cl.i 3, Cl.i 1, Cl.i 4, Cl.i 1], [Cl.i 0, Cl.i 2, Cl.i 0, Cl.i 3, Cl.i 0]] /\ Sp.strP Zfj Zfl (Int.toNat (2 : Int)) = [[Cl.i 3], [Cl.i (-5 : Int)]] /\ Sp.strA Zfj Zfp (Int.toNat (2 : Int)) = 2) (Vif true (Pre (Sp.misV Zfj Zfl Zfp Zfo = [[Cl.i 1, Cl.i 2], [Cl.i 1, Cl.i 1], [Cl.i 0, Cl.i 1]]) (Q [[Cl.b true]])) (Q Zfn))) (Q Zfn)) (Q Zfn)) (Q Zfn))) (Q Zfn))) (Q Zfn)) (Q Zfn)) (Q Zfn))) (Q Zfn)) (Q Zfn)) (Q Zfn)) (Q Zfn)) (Q Zfn)) (Q Zfn)) (Q Zfn)) (Q Zfn)))))))))
theorem Xkn (W : InW)  (Q : DS -> Prop) : Ywr (cxT Try.prog TT TM1 1000 50) 1000 22 [] [] 0 (Y01 [(false, [.bool])] Q) (fun _ _ _ _ => Stuck 421) = Xbk  Q := by kernel_rfl
abbrev Xjt : List AT := []
theorem Xll {pre : DS -> Prop} {res : DS -> DS} (hyp_ : ∀ (W : InW) , pre [] -> ∀ Q : DS -> Prop, Q (res []) -> Xbk  Q) : PureOk Try.prog 22 Xjt [(false, [.bool])] pre res :=
 PureOk.of' (fun W => @TT W) (fun W => @Xe W) Xa TM1 1000 50 fun W hp =>
  (Xkn W  (fun o => o = res [])).mpr (hyp_ W  hp _ rfl)
end Go.Proofs.Ytifhdbgciehicaa

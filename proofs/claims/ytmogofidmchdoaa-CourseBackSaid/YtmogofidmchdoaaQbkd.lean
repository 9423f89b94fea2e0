/-
  'CourseBack': for every input the law returns true, and what is handed in reads as before. No condition.
-/
import Derived.Test.YtmogofidmchdoaaQbkc
set_option linter.unusedVariables false
set_option linter.unusedSectionVars false
set_option linter.unusedSimpArgs false
namespace Go.Proofs.Ytmogofidmchdoaa
open Go.RowKit
set_option maxRecDepth 100000
set_option maxHeartbeats 1600000
noncomputable def TM1 : Tab Try.prog := ⟨[Xiw, Xtb, Xgc, Xj6, Xnw, Xld, Xgd, Xg7, Xj7, Xlf], [], []⟩
abbrev lM1 (n : Int) : Pt := .lit (.int .i64 n)
abbrev vM1 [W : InW] (n : Int) : AV := .v (.int .i64 n)
def xsM1 [W : InW] (c : CC) : List AV := match insL c.args [] with | some x => x.1 | none => []
def ysM1 [W : InW] (c : CC) : Heap := match insH c.H [] with | some x => x.1 | none => []
def Zdp := [[Cl.s { data := { toList := [(104 : UInt8), (111 : UInt8), (109 : UInt8), (101 : UInt8)] } }], [Cl.s { data := { toList := [(104 : UInt8), (105 : UInt8), (108 : UInt8), (108 : UInt8)] } }], [Cl.s { data := { toList := [(114 : UInt8), (105 : UInt8), (110 : UInt8), (103 : UInt8)] } }], [Cl.s { data := { toList := [(100 : UInt8), (101 : UInt8), (112 : UInt8), (111 : UInt8), (116 : UInt8)] } }]]
def Zdr := [[Cl.s { data := { toList := [(116 : UInt8), (114 : UInt8), (97 : UInt8), (109 : UInt8)] } }], [Cl.s { data := { toList := [(98 : UInt8), (101 : UInt8), (110 : UInt8), (100 : UInt8)] } }]]
def Zdt := [[Cl.s { data := { toList := [(97 : UInt8), (109 : UInt8)] } }], [Cl.s { data := { toList := [(112 : UInt8), (109 : UInt8)] } }]]
def Zdv := Sp.NamesOk Zdp /\ Sp.NamesOk Zdr /\ Sp.NamesOk Zdt
def Zea := [Cl.i 0]
def Zdq := [[Cl.i 0, Cl.i 1, Cl.i 300, Cl.i 1, Cl.i 2, Cl.b true, Cl.l [[Cl.i 2], [Cl.i 2]]], [Cl.i 1, Cl.i 2, Cl.i 500, Cl.i 2, Cl.i 3, Cl.b true, Cl.l [Zea, [Cl.i 1]]], [Cl.i 0, Cl.i 2, Cl.i 400, Cl.i 1, Cl.i 4, Cl.b false, Cl.l [Zea, Zea]], [Cl.i 2, Cl.i 0, Cl.i 600, Cl.i 2, Cl.i 2, Cl.b false, Cl.l [[Cl.i 1], [Cl.i 1]]]]
def Zdu := [[Cl.i 10, Cl.i 1, Cl.i 0, Cl.i 5], [Cl.i 20, Cl.i 2, Cl.i 1, Cl.i 3], [Cl.i 30, Cl.i 0, Cl.i 0, Cl.i 0], [Cl.i 5, Cl.i 10, Cl.i 0, Cl.i 9]]
def Zds := [[Cl.l [[Cl.i 2, Cl.b false], [Cl.i 3, Cl.b false]]], [Cl.l [[Cl.i 0, Cl.b false], [Cl.i 1, Cl.b false], [Cl.i 3, Cl.b false]]], [Cl.l [[Cl.i 0, Cl.b false], [Cl.i 0, Cl.b true], [Cl.i 2, Cl.b false], [Cl.i 3, Cl.b false]]]]
def Zdy := (1 : Int)
def Zdz := decide (Sp.pairE Zdp Zdr Zdt Zdq Zh Zdu Zds Zh Zdy = 0)
def Zdx := [Zea, [Cl.i 1], [Cl.i 2]]
def Zdw := [[Cl.b false]]
def Xcl [W : InW]  (Q : DS -> Prop) : Prop :=
 Pre Zdv (Pre Zdv (Pre Zdv (Pre Zdv (Pre Zdv (Pre Zdv (Pre Zdv (Vif (decide (Sp.haE Zdp Zdr Zdt Zdq Zh Zdu Zds Zdy = 0)) (Vif (decide (Sp.aeE Zdp Zdr Zdt Zdq Zh Zdu Zds Zdy [[Cl.i 5], [Cl.i 3], Zea, [Cl.i 9]] = Zh)) (Vif Zdz (Vif Zdz (Vif (decide (Sp.pkE Zdp Zdr Zdt Zdq Zh Zdu Zds (2 : Int) Zdy Zh Zh = 0)) (Vif (decide (Sp.dbE Zdp Zdr Zdt Zdq Zh Zdu Zds Zdx (20 : Int) = 0)) (Vif (decide (Sp.pkE Zdp Zdr Zdt Zdq Zh Zdu Zds (2 : Int) (4 : Int) Zh Zh = 9)) (Vif (decide (Sp.hvLo Zdp Zdr Zdt Zdq Zh Zdu Zds Zdy = 37) && (decide (Sp.hvHi Zdp Zdr Zdt Zdq Zh Zdu Zds Zdy = 136) && true)) (Vif (decide (Sp.avN Zdp Zdr Zdt Zdq Zh Zdu Zds Zdy [[Cl.i 5], [Cl.i 3], Zea, [Cl.i 9]] = (136 : Int))) (Pre True (Vif (decide (Sp.paLo Zdp Zdr Zdt Zdq Zh Zdu Zds Zh Zdy = (-11 : Int)) && decide (Sp.paHi Zdp Zdr Zdt Zdq Zh Zdu Zds Zh Zdy = (-2 : Int)) && (Sp.ints (Sp.paLe Zdp Zdr Zdt Zdq Zh Zdu Zds Zh Zdy) [[Cl.i 5], [Cl.i 3], Zea, Zea] && Sp.ints (Sp.paGr Zdp Zdr Zdt Zdq Zh Zdu Zds Zh Zdy) [Zea, [Cl.i 1], Zea, Zea])) (Pre True (Vif (Sp.ints (Sp.pdL Zdp Zdr Zdt Zdq Zh Zdu Zds Zh Zdy) Zdx) (Pre True (Vif (decide (Sp.pkB Zdp Zdr Zdt Zdq Zh Zdu Zds (2 : Int) Zdy Zh Zh = 11) && Sp.ints (Sp.pkL Zdp Zdr Zdt Zdq Zh Zdu Zds (2 : Int) Zdy Zh Zh) [Zea, [Cl.i 1]]) (Pre True (Q [[Cl.b (decide (Sp.ddA Zdp Zdr Zdt Zdq Zh Zdu Zds Zdx (20 : Int) = 0) && (decide (Sp.ddB Zdp Zdr Zdt Zdq Zh Zdu Zds Zdx (20 : Int) = 2) && Sp.ints (Sp.ddT Zdp Zdr Zdt Zdq Zh Zdu Zds Zdx (20 : Int)) [[Cl.i 5], [Cl.i 1], Zea, Zea]))]])) (Q Zdw))) (Q Zdw))) (Q Zdw))) (Q Zdw)) (Q Zdw)) (Q Zdw)) (Q Zdw)) (Q Zdw)) (Q Zdw)) (Q Zdw)) (Q Zdw)) (Q Zdw))))))))
theorem Xnh (W : InW)  (Q : DS -> Prop) : Yvd (cxT Try.prog TT TM1 1000 50) 1000 20 [] [] 0 (Yzg [(false, [.bool])] Q) (fun _ _ _ _ => Stuck 421) = Xcl  Q := by kernel_rfl
abbrev Xmj : List AT := []
theorem Xo2 {pre : DS -> Prop} {res : DS -> DS} (hyp_ : ∀ (W : InW) , pre [] -> ∀ Q : DS -> Prop, Q (res []) -> Xcl  Q) : PureOk Try.prog 20 Xmj [(false, [.bool])] pre res :=
 PureOk.of' (fun W => @TT W) (fun W => @Xb W) Xa TM1 1000 50 fun W hp =>
  (Xnh W  (fun o => o = res [])).mpr (hyp_ W  hp _ rfl)
end Go.Proofs.Ytmogofidmchdoaa

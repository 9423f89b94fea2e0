/-
  'CourseLess': for every input the law returns true, and what is handed in reads as before. No condition.
-/
import Derived.Test.YtmogofidmchdoaaQlsc
set_option linter.unusedVariables false
set_option linter.unusedSectionVars false
set_option linter.unusedSimpArgs false
namespace Go.Proofs.Ytmogofidmchdoaa
open Go.RowKit
set_option maxRecDepth 100000
set_option maxHeartbeats 1600000
noncomputable def TM1 : Tab Try.prog := ⟨[Xh9, Xsa, Xfv, Xjh, Xh8, Xkp, Xku, Xkq, Xji, Xks], [], []⟩
abbrev lM1 (n : Int) : Pt := .lit (.int .i64 n)
abbrev vM1 [W : InW] (n : Int) : AV := .v (.int .i64 n)
def xsM1 [W : InW] (c : CC) : List AV := match insL c.args [] with | some x => x.1 | none => []
def ysM1 [W : InW] (c : CC) : Heap := match insH c.H [] with | some x => x.1 | none => []
def Zdm := [[Cl.s { data := { toList := [(104 : UInt8), (111 : UInt8), (109 : UInt8), (101 : UInt8)] } }], [Cl.s { data := { toList := [(104 : UInt8), (105 : UInt8), (108 : UInt8), (108 : UInt8)] } }], [Cl.s { data := { toList := [(114 : UInt8), (105 : UInt8), (110 : UInt8), (103 : UInt8)] } }], [Cl.s { data := { toList := [(100 : UInt8), (101 : UInt8), (112 : UInt8), (111 : UInt8), (116 : UInt8)] } }]]
def Zdo := [[Cl.s { data := { toList := [(116 : UInt8), (114 : UInt8), (97 : UInt8), (109 : UInt8)] } }], [Cl.s { data := { toList := [(98 : UInt8), (101 : UInt8), (110 : UInt8), (100 : UInt8)] } }]]
def Zdq := [[Cl.s { data := { toList := [(97 : UInt8), (109 : UInt8)] } }], [Cl.s { data := { toList := [(112 : UInt8), (109 : UInt8)] } }]]
def Zds := Sp.NamesOk Zdm /\ Sp.NamesOk Zdo /\ Sp.NamesOk Zdq
def Zdx := [Cl.i 0]
def Zdn := [[Cl.i 0, Cl.i 1, Cl.i 300, Cl.i 1, Cl.i 2, Cl.b true, Cl.l [[Cl.i 2], [Cl.i 2]]], [Cl.i 1, Cl.i 2, Cl.i 500, Cl.i 2, Cl.i 3, Cl.b true, Cl.l [Zdx, [Cl.i 1]]], [Cl.i 0, Cl.i 2, Cl.i 400, Cl.i 1, Cl.i 4, Cl.b false, Cl.l [Zdx, Zdx]], [Cl.i 2, Cl.i 0, Cl.i 600, Cl.i 2, Cl.i 2, Cl.b false, Cl.l [[Cl.i 1], [Cl.i 1]]]]
def Zdr := [[Cl.i 10, Cl.i 1, Cl.i 0, Cl.i 5], [Cl.i 20, Cl.i 2, Cl.i 1, Cl.i 3], [Cl.i 30, Cl.i 0, Cl.i 0, Cl.i 0], [Cl.i 5, Cl.i 10, Cl.i 0, Cl.i 9]]
def Zdp := [[Cl.l [[Cl.i 2, Cl.b false], [Cl.i 3, Cl.b false]]], [Cl.l [[Cl.i 0, Cl.b false], [Cl.i 1, Cl.b false], [Cl.i 3, Cl.b false]]], [Cl.l [[Cl.i 0, Cl.b false], [Cl.i 0, Cl.b true], [Cl.i 2, Cl.b false], [Cl.i 3, Cl.b false]]]]
def Zdv := (1 : Int)
def Zdw := decide (Sp.pairE Zdm Zdo Zdq Zdn Zg Zdr Zdp Zg Zdv = 0)
def Zdu := [Zdx, [Cl.i 1], [Cl.i 2]]
def Zdt := [[Cl.b false]]
def Xcf [W : InW]  (Q : DS -> Prop) : Prop :=
 Pre Zds (Pre Zds (Pre Zds (Pre Zds (Pre Zds (Pre Zds (Pre Zds (Vif (decide (Sp.haE Zdm Zdo Zdq Zdn Zg Zdr Zdp Zdv = 0)) (Vif (decide (Sp.aeE Zdm Zdo Zdq Zdn Zg Zdr Zdp Zdv [[Cl.i 5], [Cl.i 3], Zdx, [Cl.i 9]] = Zg)) (Vif Zdw (Vif Zdw (Vif (decide (Sp.pkE Zdm Zdo Zdq Zdn Zg Zdr Zdp (2 : Int) Zdv Zg Zg = 0)) (Vif (decide (Sp.dbE Zdm Zdo Zdq Zdn Zg Zdr Zdp Zdu (20 : Int) = 0)) (Vif (decide (Sp.pkE Zdm Zdo Zdq Zdn Zg Zdr Zdp (2 : Int) (4 : Int) Zg Zg = 9)) (Vif (decide (Sp.hvLo Zdm Zdo Zdq Zdn Zg Zdr Zdp Zdv = 37) && (decide (Sp.hvHi Zdm Zdo Zdq Zdn Zg Zdr Zdp Zdv = 136) && true)) (Vif (decide (Sp.avN Zdm Zdo Zdq Zdn Zg Zdr Zdp Zdv [[Cl.i 5], [Cl.i 3], Zdx, [Cl.i 9]] = (136 : Int))) (Pre True (Vif (decide (Sp.paLo Zdm Zdo Zdq Zdn Zg Zdr Zdp Zg Zdv = (-11 : Int)) && decide (Sp.paHi Zdm Zdo Zdq Zdn Zg Zdr Zdp Zg Zdv = (-2 : Int)) && (Sp.ints (Sp.paLe Zdm Zdo Zdq Zdn Zg Zdr Zdp Zg Zdv) [[Cl.i 5], [Cl.i 3], Zdx, Zdx] && Sp.ints (Sp.paGr Zdm Zdo Zdq Zdn Zg Zdr Zdp Zg Zdv) [Zdx, [Cl.i 1], Zdx, Zdx])) (Pre True (Vif (Sp.ints (Sp.pdL Zdm Zdo Zdq Zdn Zg Zdr Zdp Zg Zdv) Zdu) (Pre True (Vif (decide (Sp.pkB Zdm Zdo Zdq Zdn Zg Zdr Zdp (2 : Int) Zdv Zg Zg = 11) && Sp.ints (Sp.pkL Zdm Zdo Zdq Zdn Zg Zdr Zdp (2 : Int) Zdv Zg Zg) [Zdx, [Cl.i 1]]) (Pre True (Q [[Cl.b (decide (Sp.ddA Zdm Zdo Zdq Zdn Zg Zdr Zdp Zdu (20 : Int) = 0) && (decide (Sp.ddB Zdm Zdo Zdq Zdn Zg Zdr Zdp Zdu (20 : Int) = 2) && Sp.ints (Sp.ddT Zdm Zdo Zdq Zdn Zg Zdr Zdp Zdu (20 : Int)) [[Cl.i 5], [Cl.i 1], Zdx, Zdx]))]])) (Q Zdt))) (Q Zdt))) (Q Zdt))) (Q Zdt)) (Q Zdt)) (Q Zdt)) (Q Zdt)) (Q Zdt)) (Q Zdt)) (Q Zdt)) (Q Zdt)) (Q Zdt))))))))
theorem Xmq (W : InW)  (Q : DS -> Prop) : Yvi (cxT Try.prog TT TM1 1000 50) 1000 20 [] [] 0 (Yzk [(false, [.bool])] Q) (fun _ _ _ _ => Stuck 421) = Xcf  Q := by kernel_rfl
abbrev Xlv : List AT := []
theorem Xn7 {pre : DS -> Prop} {res : DS -> DS} (hyp_ : ∀ (W : InW) , pre [] -> ∀ Q : DS -> Prop, Q (res []) -> Xcf  Q) : PureOk Try.prog 20 Xlv [(false, [.bool])] pre res :=
 PureOk.of' (fun W => @TT W) (fun W => @Xb W) Xa TM1 1000 50 fun W hp =>
  (Xmq W  (fun o => o = res [])).mpr (hyp_ W  hp _ rfl)
end Go.Proofs.Ytmogofidmchdoaa

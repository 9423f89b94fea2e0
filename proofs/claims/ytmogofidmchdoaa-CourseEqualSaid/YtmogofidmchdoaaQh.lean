/-
  A machine over abstract states, proved sound: the help of the proof of a law.
-/
import Derived.Test.YtmogofidmchdoaaQg
set_option linter.unusedVariables false
set_option linter.unusedSectionVars false
set_option linter.unusedSimpArgs false
namespace Go.Proofs.Ytmogofidmchdoaa
open Go.RowKit
set_option maxRecDepth 100000
set_option maxHeartbeats 1600000
noncomputable def TM1 : Tab Try.prog := ⟨[Ybbp, Ybkd, Y6q, Y3z, Ybbo, Y6p, Y6t, Y6r, Y30, Y6s], [], []⟩
abbrev lM1 (n : Int) : Pt := .lit (.int .i64 n)
abbrev vM1 [W : InW] (n : Int) : AV := .v (.int .i64 n)
def xsM1 [W : InW] (c : CC) : List AV := match insL c.args [] with | some x => x.1 | none => []
def ysM1 [W : InW] (c : CC) : Heap := match insH c.H [] with | some x => x.1 | none => []
def Zdw := [[Cl.s { data := { toList := [(104 : UInt8), (111 : UInt8), (109 : UInt8), (101 : UInt8)] } }], [Cl.s { data := { toList := [(104 : UInt8), (105 : UInt8), (108 : UInt8), (108 : UInt8)] } }], [Cl.s { data := { toList := [(114 : UInt8), (105 : UInt8), (110 : UInt8), (103 : UInt8)] } }], [Cl.s { data := { toList := [(100 : UInt8), (101 : UInt8), (112 : UInt8), (111 : UInt8), (116 : UInt8)] } }]]
def Zdz := [[Cl.s { data := { toList := [(116 : UInt8), (114 : UInt8), (97 : UInt8), (109 : UInt8)] } }], [Cl.s { data := { toList := [(98 : UInt8), (101 : UInt8), (110 : UInt8), (100 : UInt8)] } }]]
def Zea := [[Cl.s { data := { toList := [(97 : UInt8), (109 : UInt8)] } }], [Cl.s { data := { toList := [(112 : UInt8), (109 : UInt8)] } }]]
def Zeb := Sp.NamesOk Zdw /\ Sp.NamesOk Zdz /\ Sp.NamesOk Zea
def Zed := (1 : Int)
def Zef := (2 : Int)
def Zeg := [Cl.i Zf]
def Zdv := [[Cl.i Zf, Cl.i Zed, Cl.i (300 : Int), Cl.i Zed, Cl.i Zef, Cl.b true, Cl.l [[Cl.i Zef], [Cl.i Zef]]], [Cl.i Zed, Cl.i Zef, Cl.i (500 : Int), Cl.i Zef, Cl.i (3 : Int), Cl.b true, Cl.l [Zeg, [Cl.i Zed]]], [Cl.i Zf, Cl.i Zef, Cl.i (400 : Int), Cl.i Zed, Cl.i (4 : Int), Cl.b false, Cl.l [Zeg, Zeg]], [Cl.i Zef, Cl.i Zf, Cl.i (600 : Int), Cl.i Zef, Cl.i Zef, Cl.b false, Cl.l [[Cl.i Zed], [Cl.i Zed]]]]
def Zdy := [[Cl.i (10 : Int), Cl.i Zed, Cl.i Zf, Cl.i (5 : Int)], [Cl.i (20 : Int), Cl.i Zef, Cl.i Zed, Cl.i (3 : Int)], [Cl.i (30 : Int), Cl.i Zf, Cl.i Zf, Cl.i Zf], [Cl.i (5 : Int), Cl.i (10 : Int), Cl.i Zf, Cl.i (9 : Int)]]
def Zdx := [[Cl.l [[Cl.i Zef, Cl.b false], [Cl.i (3 : Int), Cl.b false]]], [Cl.l [[Cl.i Zf, Cl.b false], [Cl.i Zed, Cl.b false], [Cl.i (3 : Int), Cl.b false]]], [Cl.l [[Cl.i Zf, Cl.b false], [Cl.i Zf, Cl.b true], [Cl.i Zef, Cl.b false], [Cl.i (3 : Int), Cl.b false]]]]
def Zeh := [[Cl.i (5 : Int)], [Cl.i (3 : Int)], Zeg, [Cl.i (9 : Int)]]
def Zei := decide (Sp.pairE Zdw Zdz Zea Zdv Zf Zdy Zdx Zf Zed = Zf)
def Zec := [Zeg, [Cl.i Zed], [Cl.i Zef]]
def Zee := [[Cl.b false]]
def Yl6 [W : InW]  (Q : DS -> Prop) : Prop :=
 Pre Zeb (Pre Zeb (Pre Zeb (Pre Zeb (Pre Zeb (Pre Zeb (Pre Zeb (Vif (decide (Sp.haE Zdw Zdz Zea Zdv Zf Zdy Zdx Zed = Zf)) (Vif (decide (Sp.aeE Zdw Zdz Zea Zdv Zf Zdy Zdx Zed Zeh = Zf)) (Vif Zei (Vif Zei (Vif (decide (Sp.pkE Zdw Zdz Zea Zdv Zf Zdy Zdx Zef Zed Zf Zf = Zf)) (Vif (decide (Sp.dbE Zdw Zdz Zea Zdv Zf Zdy Zdx Zec (20 : Int) = Zf)) (Vif (decide (Sp.pkE Zdw Zdz Zea Zdv Zf Zdy Zdx Zef (4 : Int) Zf Zf = (9 : Int))) (Vif (decide (Sp.hvLo Zdw Zdz Zea Zdv Zf Zdy Zdx Zed = (37 : Int)) && (decide (Sp.hvHi Zdw Zdz Zea Zdv Zf Zdy Zdx Zed = (136 : Int)) && true)) (Vif (decide (Sp.avN Zdw Zdz Zea Zdv Zf Zdy Zdx Zed Zeh = (136 : Int))) (Pre True (Vif (decide (Sp.paLo Zdw Zdz Zea Zdv Zf Zdy Zdx Zf Zed = (-11 : Int)) && decide (Sp.paHi Zdw Zdz Zea Zdv Zf Zdy Zdx Zf Zed = (-2 : Int)) && (Sp.ints (Sp.paLe Zdw Zdz Zea Zdv Zf Zdy Zdx Zf Zed) [[Cl.i (5 : Int)], [Cl.i (3 : Int)], Zeg, Zeg] && Sp.ints (Sp.paGr Zdw Zdz Zea Zdv Zf Zdy Zdx Zf Zed) [Zeg, [Cl.i Zed], Zeg, Zeg])) (Pre True (Vif (Sp.ints (Sp.pdL Zdw Zdz Zea Zdv Zf Zdy Zdx Zf Zed) Zec) (Pre True (Vif (decide (Sp.pkB Zdw Zdz Zea Zdv Zf Zdy Zdx Zef Zed Zf Zf = (11 : Int)) && Sp.ints (Sp.pkL Zdw Zdz Zea Zdv Zf Zdy Zdx Zef Zed Zf Zf) [Zeg, [Cl.i Zed]]) (Pre True (Q [[Cl.b (decide (Sp.ddA Zdw Zdz Zea Zdv Zf Zdy Zdx Zec (20 : Int) = Zf) && (decide (Sp.ddB Zdw Zdz Zea Zdv Zf Zdy Zdx Zec (20 : Int) = Zef) && Sp.ints (Sp.ddT Zdw Zdz Zea Zdv Zf Zdy Zdx Zec (20 : Int)) [[Cl.i (5 : Int)], [Cl.i Zed], Zeg, Zeg]))]])) (Q Zee))) (Q Zee))) (Q Zee))) (Q Zee)) (Q Zee)) (Q Zee)) (Q Zee)) (Q Zee)) (Q Zee)) (Q Zee)) (Q Zee)) (Q Zee))))))))
theorem Ybav (W : InW)  (Q : DS -> Prop) : Ybh (cxT Try.prog TT TM1 1000 50) 1000 20 [] [] 0 (Ybj [(false, [.bool])] Q) (fun _ _ _ _ => Stuck 421) = Yl6  Q := by kernel_rfl
abbrev Y9j : List AT := []
theorem Ybc8 {pre : DS -> Prop} {res : DS -> DS} (hyp_ : ∀ (W : InW) , pre [] -> ∀ Q : DS -> Prop, Q (res []) -> Yl6  Q) : PureOk Try.prog 20 Y9j [(false, [.bool])] pre res :=
 PureOk.of' (fun W => @TT W) (fun W => @Yo W) Yd TM1 1000 50 fun W hp =>
  (Ybav W  (fun o => o = res [])).mpr (hyp_ W  hp _ rfl)
end Go.Proofs.Ytmogofidmchdoaa

/-
  'CoursePicks': for every input the law returns true, and what is handed in reads as before. No condition.
-/
import Derived.Test.YtmogofidmchdoaaQpid
set_option linter.unusedVariables false
set_option linter.unusedSectionVars false
set_option linter.unusedSimpArgs false
namespace Go.Proofs.Ytmogofidmchdoaa
open Go.RowKit
set_option maxRecDepth 100000
set_option maxHeartbeats 1600000
noncomputable def TM1 : Tab Try.prog := ⟨[Xqv, Xxk, Xnx, Xmm, Xkv, Xho, Xn0, Xny, Xen, Xhq], [], []⟩
abbrev lM1 (n : Int) : Pt := .lit (.int .i64 n)
abbrev vM1 [W : InW] (n : Int) : AV := .v (.int .i64 n)
def xsM1 [W : InW] (c : CC) : List AV := match insL c.args [] with | some x => x.1 | none => []
def ysM1 [W : InW] (c : CC) : Heap := match insH c.H [] with | some x => x.1 | none => []
def Zeh := [[Cl.s { data := { toList := [(104 : UInt8), (111 : UInt8), (109 : UInt8), (101 : UInt8)] } }], [Cl.s { data := { toList := [(104 : UInt8), (105 : UInt8), (108 : UInt8), (108 : UInt8)] } }], [Cl.s { data := { toList := [(114 : UInt8), (105 : UInt8), (110 : UInt8), (103 : UInt8)] } }], [Cl.s { data := { toList := [(100 : UInt8), (101 : UInt8), (112 : UInt8), (111 : UInt8), (116 : UInt8)] } }]]
def Zek := [[Cl.s { data := { toList := [(116 : UInt8), (114 : UInt8), (97 : UInt8), (109 : UInt8)] } }], [Cl.s { data := { toList := [(98 : UInt8), (101 : UInt8), (110 : UInt8), (100 : UInt8)] } }]]
def Zel := [[Cl.s { data := { toList := [(97 : UInt8), (109 : UInt8)] } }], [Cl.s { data := { toList := [(112 : UInt8), (109 : UInt8)] } }]]
def Zem := Sp.NamesOk Zeh /\ Sp.NamesOk Zek /\ Sp.NamesOk Zel
def Zep := (2 : Int)
def Zeq := [Cl.i Za]
def Zeg := [[Cl.i Za, Cl.i Zdt, Cl.i (300 : Int), Cl.i Zdt, Cl.i Zep, Cl.b true, Cl.l [[Cl.i Zep], [Cl.i Zep]]], [Cl.i Zdt, Cl.i Zep, Cl.i (500 : Int), Cl.i Zep, Cl.i (3 : Int), Cl.b true, Cl.l [Zeq, [Cl.i Zdt]]], [Cl.i Za, Cl.i Zep, Cl.i (400 : Int), Cl.i Zdt, Cl.i (4 : Int), Cl.b false, Cl.l [Zeq, Zeq]], [Cl.i Zep, Cl.i Za, Cl.i (600 : Int), Cl.i Zep, Cl.i Zep, Cl.b false, Cl.l [[Cl.i Zdt], [Cl.i Zdt]]]]
def Zej := [[Cl.i (10 : Int), Cl.i Zdt, Cl.i Za, Cl.i (5 : Int)], [Cl.i (20 : Int), Cl.i Zep, Cl.i Zdt, Cl.i (3 : Int)], [Cl.i (30 : Int), Cl.i Za, Cl.i Za, Cl.i Za], [Cl.i (5 : Int), Cl.i (10 : Int), Cl.i Za, Cl.i (9 : Int)]]
def Zei := [[Cl.l [[Cl.i Zep, Cl.b false], [Cl.i (3 : Int), Cl.b false]]], [Cl.l [[Cl.i Za, Cl.b false], [Cl.i Zdt, Cl.b false], [Cl.i (3 : Int), Cl.b false]]], [Cl.l [[Cl.i Za, Cl.b false], [Cl.i Za, Cl.b true], [Cl.i Zep, Cl.b false], [Cl.i (3 : Int), Cl.b false]]]]
def Zer := [[Cl.i (5 : Int)], [Cl.i (3 : Int)], Zeq, [Cl.i (9 : Int)]]
def Zes := decide (Sp.pairE Zeh Zek Zel Zeg Za Zej Zei Za Zdt = Za)
def Zen := [Zeq, [Cl.i Zdt], [Cl.i Zep]]
def Zeo := [[Cl.b false]]
def Xcz [W : InW]  (Q : DS -> Prop) : Prop :=
 Pre Zem (Pre Zem (Pre Zem (Pre Zem (Pre Zem (Pre Zem (Pre Zem (Vif (decide (Sp.haE Zeh Zek Zel Zeg Za Zej Zei Zdt = Za)) (Vif (decide (Sp.aeE Zeh Zek Zel Zeg Za Zej Zei Zdt Zer = Za)) (Vif Zes (Vif Zes (Vif (decide (Sp.pkE Zeh Zek Zel Zeg Za Zej Zei Zep Zdt Za Za = Za)) (Vif (decide (Sp.dbE Zeh Zek Zel Zeg Za Zej Zei Zen (20 : Int) = Za)) (Vif (decide (Sp.pkE Zeh Zek Zel Zeg Za Zej Zei Zep (4 : Int) Za Za = (9 : Int))) (Vif (decide (Sp.hvLo Zeh Zek Zel Zeg Za Zej Zei Zdt = (37 : Int)) && (decide (Sp.hvHi Zeh Zek Zel Zeg Za Zej Zei Zdt = (136 : Int)) && true)) (Vif (decide (Sp.avN Zeh Zek Zel Zeg Za Zej Zei Zdt Zer = (136 : Int))) (Pre True (Vif (decide (Sp.paLo Zeh Zek Zel Zeg Za Zej Zei Za Zdt = (-11 : Int)) && decide (Sp.paHi Zeh Zek Zel Zeg Za Zej Zei Za Zdt = (-2 : Int)) && (Sp.ints (Sp.paLe Zeh Zek Zel Zeg Za Zej Zei Za Zdt) [[Cl.i (5 : Int)], [Cl.i (3 : Int)], Zeq, Zeq] && Sp.ints (Sp.paGr Zeh Zek Zel Zeg Za Zej Zei Za Zdt) [Zeq, [Cl.i Zdt], Zeq, Zeq])) (Pre True (Vif (Sp.ints (Sp.pdL Zeh Zek Zel Zeg Za Zej Zei Za Zdt) Zen) (Pre True (Vif (decide (Sp.pkB Zeh Zek Zel Zeg Za Zej Zei Zep Zdt Za Za = (11 : Int)) && Sp.ints (Sp.pkL Zeh Zek Zel Zeg Za Zej Zei Zep Zdt Za Za) [Zeq, [Cl.i Zdt]]) (Pre True (Q [[Cl.b (decide (Sp.ddA Zeh Zek Zel Zeg Za Zej Zei Zen (20 : Int) = Za) && (decide (Sp.ddB Zeh Zek Zel Zeg Za Zej Zei Zen (20 : Int) = Zep) && Sp.ints (Sp.ddT Zeh Zek Zel Zeg Za Zej Zei Zen (20 : Int)) [[Cl.i (5 : Int)], [Cl.i Zdt], Zeq, Zeq]))]])) (Q Zeo))) (Q Zeo))) (Q Zeo))) (Q Zeo)) (Q Zeo)) (Q Zeo)) (Q Zeo)) (Q Zeo)) (Q Zeo)) (Q Zeo)) (Q Zeo)) (Q Zeo))))))))
theorem Xqf (W : InW)  (Q : DS -> Prop) : Yte (cxT Try.prog TT TM1 1000 50) 1000 20 [] [] 0 (Ywt [(false, [.bool])] Q) (fun _ _ _ _ => Stuck 421) = Xcz  Q := by kernel_rfl
abbrev Xo9 : List AT := []
theorem Xsd {pre : DS -> Prop} {res : DS -> DS} (hyp_ : ∀ (W : InW) , pre [] -> ∀ Q : DS -> Prop, Q (res []) -> Xcz  Q) : PureOk Try.prog 20 Xo9 [(false, [.bool])] pre res :=
 PureOk.of' (fun W => @TT W) (fun W => @Xb W) Xa TM1 1000 50 fun W hp =>
  (Xqf W  (fun o => o = res [])).mpr (hyp_ W  hp _ rfl)
end Go.Proofs.Ytmogofidmchdoaa

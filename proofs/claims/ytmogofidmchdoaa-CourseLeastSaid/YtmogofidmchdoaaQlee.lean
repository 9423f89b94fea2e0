/-
  'CourseLeast': for every input the law returns true, and what is handed in reads as before. No condition.
-/
import Derived.Test.YtmogofidmchdoaaQled
set_option linter.unusedVariables false
set_option linter.unusedSectionVars false
set_option linter.unusedSimpArgs false
namespace Go.Proofs.Ytmogofidmchdoaa
open Go.RowKit
set_option maxRecDepth 100000
set_option maxHeartbeats 1600000
noncomputable def TM1 : Tab Try.prog := ⟨[Xp8, Xwr, Xnb, Xly, Xkf, Xna, Xng, Xnc, Xlz, Xne], [], []⟩
abbrev lM1 (n : Int) : Pt := .lit (.int .i64 n)
abbrev vM1 [W : InW] (n : Int) : AV := .v (.int .i64 n)
def xsM1 [W : InW] (c : CC) : List AV := match insL c.args [] with | some x => x.1 | none => []
def ysM1 [W : InW] (c : CC) : Heap := match insH c.H [] with | some x => x.1 | none => []
def Zdx := [[Cl.s { data := { toList := [(104 : UInt8), (111 : UInt8), (109 : UInt8), (101 : UInt8)] } }], [Cl.s { data := { toList := [(104 : UInt8), (105 : UInt8), (108 : UInt8), (108 : UInt8)] } }], [Cl.s { data := { toList := [(114 : UInt8), (105 : UInt8), (110 : UInt8), (103 : UInt8)] } }], [Cl.s { data := { toList := [(100 : UInt8), (101 : UInt8), (112 : UInt8), (111 : UInt8), (116 : UInt8)] } }]]
def Zea := [[Cl.s { data := { toList := [(116 : UInt8), (114 : UInt8), (97 : UInt8), (109 : UInt8)] } }], [Cl.s { data := { toList := [(98 : UInt8), (101 : UInt8), (110 : UInt8), (100 : UInt8)] } }]]
def Zeb := [[Cl.s { data := { toList := [(97 : UInt8), (109 : UInt8)] } }], [Cl.s { data := { toList := [(112 : UInt8), (109 : UInt8)] } }]]
def Zec := Sp.NamesOk Zdx /\ Sp.NamesOk Zea /\ Sp.NamesOk Zeb
def Zee := (1 : Int)
def Zeg := (2 : Int)
def Zeh := [Cl.i Za]
def Zdw := [[Cl.i Za, Cl.i Zee, Cl.i (300 : Int), Cl.i Zee, Cl.i Zeg, Cl.b true, Cl.l [[Cl.i Zeg], [Cl.i Zeg]]], [Cl.i Zee, Cl.i Zeg, Cl.i (500 : Int), Cl.i Zeg, Cl.i (3 : Int), Cl.b true, Cl.l [Zeh, [Cl.i Zee]]], [Cl.i Za, Cl.i Zeg, Cl.i (400 : Int), Cl.i Zee, Cl.i (4 : Int), Cl.b false, Cl.l [Zeh, Zeh]], [Cl.i Zeg, Cl.i Za, Cl.i (600 : Int), Cl.i Zeg, Cl.i Zeg, Cl.b false, Cl.l [[Cl.i Zee], [Cl.i Zee]]]]
def Zdz := [[Cl.i (10 : Int), Cl.i Zee, Cl.i Za, Cl.i (5 : Int)], [Cl.i (20 : Int), Cl.i Zeg, Cl.i Zee, Cl.i (3 : Int)], [Cl.i (30 : Int), Cl.i Za, Cl.i Za, Cl.i Za], [Cl.i (5 : Int), Cl.i (10 : Int), Cl.i Za, Cl.i (9 : Int)]]
def Zdy := [[Cl.l [[Cl.i Zeg, Cl.b false], [Cl.i (3 : Int), Cl.b false]]], [Cl.l [[Cl.i Za, Cl.b false], [Cl.i Zee, Cl.b false], [Cl.i (3 : Int), Cl.b false]]], [Cl.l [[Cl.i Za, Cl.b false], [Cl.i Za, Cl.b true], [Cl.i Zeg, Cl.b false], [Cl.i (3 : Int), Cl.b false]]]]
def Zei := [[Cl.i (5 : Int)], [Cl.i (3 : Int)], Zeh, [Cl.i (9 : Int)]]
def Zej := decide (Sp.pairE Zdx Zea Zeb Zdw Za Zdz Zdy Za Zee = Za)
def Zed := [Zeh, [Cl.i Zee], [Cl.i Zeg]]
def Zef := [[Cl.b false]]
def Xct [W : InW]  (Q : DS -> Prop) : Prop :=
 Pre Zec (Pre Zec (Pre Zec (Pre Zec (Pre Zec (Pre Zec (Pre Zec (Vif (decide (Sp.haE Zdx Zea Zeb Zdw Za Zdz Zdy Zee = Za)) (Vif (decide (Sp.aeE Zdx Zea Zeb Zdw Za Zdz Zdy Zee Zei = Za)) (Vif Zej (Vif Zej (Vif (decide (Sp.pkE Zdx Zea Zeb Zdw Za Zdz Zdy Zeg Zee Za Za = Za)) (Vif (decide (Sp.dbE Zdx Zea Zeb Zdw Za Zdz Zdy Zed (20 : Int) = Za)) (Vif (decide (Sp.pkE Zdx Zea Zeb Zdw Za Zdz Zdy Zeg (4 : Int) Za Za = (9 : Int))) (Vif (decide (Sp.hvLo Zdx Zea Zeb Zdw Za Zdz Zdy Zee = (37 : Int)) && (decide (Sp.hvHi Zdx Zea Zeb Zdw Za Zdz Zdy Zee = (136 : Int)) && true)) (Vif (decide (Sp.avN Zdx Zea Zeb Zdw Za Zdz Zdy Zee Zei = (136 : Int))) (Pre True (Vif (decide (Sp.paLo Zdx Zea Zeb Zdw Za Zdz Zdy Za Zee = (-11 : Int)) && decide (Sp.paHi Zdx Zea Zeb Zdw Za Zdz Zdy Za Zee = (-2 : Int)) && (Sp.ints (Sp.paLe Zdx Zea Zeb Zdw Za Zdz Zdy Za Zee) [[Cl.i (5 : Int)], [Cl.i (3 : Int)], Zeh, Zeh] && Sp.ints (Sp.paGr Zdx Zea Zeb Zdw Za Zdz Zdy Za Zee) [Zeh, [Cl.i Zee], Zeh, Zeh])) (Pre True (Vif (Sp.ints (Sp.pdL Zdx Zea Zeb Zdw Za Zdz Zdy Za Zee) Zed) (Pre True (Vif (decide (Sp.pkB Zdx Zea Zeb Zdw Za Zdz Zdy Zeg Zee Za Za = (11 : Int)) && Sp.ints (Sp.pkL Zdx Zea Zeb Zdw Za Zdz Zdy Zeg Zee Za Za) [Zeh, [Cl.i Zee]]) (Pre True (Q [[Cl.b (decide (Sp.ddA Zdx Zea Zeb Zdw Za Zdz Zdy Zed (20 : Int) = Za) && (decide (Sp.ddB Zdx Zea Zeb Zdw Za Zdz Zdy Zed (20 : Int) = Zeg) && Sp.ints (Sp.ddT Zdx Zea Zeb Zdw Za Zdz Zdy Zed (20 : Int)) [[Cl.i (5 : Int)], [Cl.i Zee], Zeh, Zeh]))]])) (Q Zef))) (Q Zef))) (Q Zef))) (Q Zef)) (Q Zef)) (Q Zef)) (Q Zef)) (Q Zef)) (Q Zef)) (Q Zef)) (Q Zef)) (Q Zef))))))))
theorem Xpt (W : InW)  (Q : DS -> Prop) : Yte (cxT Try.prog TT TM1 1000 50) 1000 20 [] [] 0 (Ywt [(false, [.bool])] Q) (fun _ _ _ _ => Stuck 421) = Xct  Q := by kernel_rfl
abbrev Xom : List AT := []
theorem Xro {pre : DS -> Prop} {res : DS -> DS} (hyp_ : ∀ (W : InW) , pre [] -> ∀ Q : DS -> Prop, Q (res []) -> Xct  Q) : PureOk Try.prog 20 Xom [(false, [.bool])] pre res :=
 PureOk.of' (fun W => @TT W) (fun W => @Xb W) Xa TM1 1000 50 fun W hp =>
  (Xpt W  (fun o => o = res [])).mpr (hyp_ W  hp _ rfl)
end Go.Proofs.Ytmogofidmchdoaa

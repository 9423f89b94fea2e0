/-
  'TopNoted', the tied card: for every input the law returns true, and what is handed in reads as before.
-/
import Derived.Test.YtladoaeefkpdiaaGreatDoorQtne
set_option linter.unusedVariables false
set_option linter.unusedSectionVars false
set_option linter.unusedSimpArgs false
noncomputable section
namespace Go.Proofs.YtladoaeefkpdiaaGreatDoor
open Go.RowKit
set_option maxRecDepth 100000
abbrev lM11 (n : Int) : Pt := .lit (.int .i64 n)
abbrev vM11 [W : InW] (n : Int) : AV := .v (.int .i64 n)
abbrev Xgx : Nat × PI := (1, .row 72 3 3 [.lit (Value.string { data := { toList := [ 115 , 105 , 103 , 110 , 97 , 108 ] } }), lM11 1, lM11 3, .lit (Value.string { data := { toList := [ 115 , 112 , 101 , 101 , 100 ] } }), lM11 2, lM11 1, .lit (Value.string { data := { toList := [ 114 , 101 , 100 , 108 , 105 , 103 , 104 , 116 ] } }), lM11 5, lM11 0])
abbrev Xgw : Nat × PI := (4, .row 9 1 1 [.lit (Value.string { data := { toList := [ 112 , 97 , 114 , 107 ] } })])
abbrev Xnt : Nat × PI := (7, .row 116 3 2 [lM11 1, lM11 0, lM11 1, lM11 3, lM11 3, lM11 3])
def Xn5 [W : InW] (c : CC) : List AV := match insL c.args [] with | some x => x.1 | none => []
def Xn4 [W : InW] (c : CC) : Heap := match insH c.H [] with | some x => x.1 | none => []
def Xl : CC where
 g := 44
 args := [.agg [.sl 1 0 0 3, .sl 4 0 0 1, lM11 4], .agg [lM11 4, .sl 7 0 0 2]]
 H := [Xgx, Xgw, Xnt]
 outs := [⟨false, .tup [.lit (Value.string { data := { toList := [ 52 , 10 , 49 , 32 , 115 , 105 , 103 , 110 , 97 , 108 , 32 , 49 , 10 , 51 , 32 , 112 , 97 , 114 , 107 , 32 , 51 , 10 ] } }), lM11 0], [Xgx, Xgw, Xnt], false⟩]
 spec := fun _ K => K 0 []
def Xi3 : Tab Tryz.prog := ⟨[], [], [Xdx, Xcs, Xb1, Xbn, Xbf, X1, Xv, Xi, Xf]⟩
theorem Xmc (W : InW) (K : Nat -> List Ed -> Prop) : Yzo (cxT Tryz.prog TT Xi3 1000 50) 1000 44 (Xn5 Xl) (Xn4 Xl) (fun v h => outC Xl.H [] Xl.outs 0 false v h K) (fun v h => outC Xl.H [] Xl.outs 0 true v h K) = K 0 [] := by kernel_rfl
theorem Xm3 : ∀ W : InW, @CallC W Tryz.prog Xl :=
 CC.okOf (fun W => @TT W) (fun W => @Xc W) Xa Xi3 1000 50 Xl fun W K h => (Xmc W K).mpr h
def Xiy : CE Tryz.prog := ceOf Xl Xm3
def Xk : CC where
 g := 45
 args := [.agg [.sl 1 0 0 3, .sl 4 0 0 1, lM11 4], .lit (Value.string { data := { toList := [ 52 , 10 , 49 , 32 , 115 , 105 , 103 , 110 , 97 , 108 , 32 , 49 , 10 , 51 , 32 , 112 , 97 , 114 , 107 , 32 , 51 , 10 ] } })]
 H := [Xgx, Xgw]
 outs := [⟨false, .tup [.agg [lM11 4, .sl 6 0 0 2], lM11 0], [Xgx, Xgw, (6, .row 116 3 2 [lM11 1, lM11 0, lM11 1, lM11 3, lM11 3, lM11 3])], false⟩]
 spec := fun _ K => K 0 []
def Xi2 : Tab Tryz.prog := ⟨[], [], [Xiy, Xdx, Xcs, Xb1, Xbn, Xbf, X1, Xv, Xi, Xf]⟩
theorem Xmb (W : InW) (K : Nat -> List Ed -> Prop) : Yzo (cxT Tryz.prog TT Xi2 1000 50) 1000 45 (Xn5 Xk) (Xn4 Xk) (fun v h => outC Xk.H [] Xk.outs 0 false v h K) (fun v h => outC Xk.H [] Xk.outs 0 true v h K) = K 0 [] := by kernel_rfl
theorem Xm2 : ∀ W : InW, @CallC W Tryz.prog Xk :=
 CC.okOf (fun W => @TT W) (fun W => @Xc W) Xa Xi2 1000 50 Xk fun W K h => (Xmb W K).mpr h
def Xnk : CE Tryz.prog := ceOf Xk Xm2
def Xj : CC where
 g := 7
 args := []
 H := []
 outs := [⟨false, .lit (Value.bool true), [], false⟩]
 spec := fun _ K => K 0 []
def Xi1 : Tab Tryz.prog := ⟨[], [], [Xnk, Xiy, Xdx, Xcs, Xb1, Xbn, Xbf, X1, Xv, Xi, Xf]⟩
theorem Xma (W : InW) (K : Nat -> List Ed -> Prop) : Yzo (cxT Tryz.prog TT Xi1 1000 50) 1000 7 (Xn5 Xj) (Xn4 Xj) (fun v h => outC Xj.H [] Xj.outs 0 false v h K) (fun v h => outC Xj.H [] Xj.outs 0 true v h K) = K 0 [] := by kernel_rfl
theorem Xm1 : ∀ W : InW, @CallC W Tryz.prog Xj :=
 CC.okOf (fun W => @TT W) (fun W => @Xc W) Xa Xi1 1000 50 Xj fun W K h => (Xma W K).mpr h
abbrev Xva : CC := Xj
theorem Xta : ∀ W : InW, @CallC W Tryz.prog Xva := Xm1
end Go.Proofs.YtladoaeefkpdiaaGreatDoor
